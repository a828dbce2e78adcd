/- The law FindOver: it holds at every input that its row reads. No condition of its own. -/
import Derived.Test.YtmbmalkpmanaaaaYG20
import Derived.Test.YtmbmalkpmanaaaaYG9
import Derived.Test.YtmbmalkpmanaaaaYG10
import Derived.Test.YtmbmalkpmanaaaaYG13
import Derived.Test.YtmbmalkpmanaaaaYG19
import Derived.Test.YtmbmalkpmanaaaaYG2
import Derived.Deep.Slices
import Derived.Test.YtmbmalkpmanaaaaYG4
import Derived.Test.YtmbmalkpmanaaaaYG12
import Derived.Test.YtmbmalkpmanaaaaYG17
import Derived.Test.YtmbmalkpmanaaaaYG18
import Derived.Test.YtmbmalkpmanaaaaRows
import Derived.WalkKit
import Derived.ProofKit
import Derived.OpenShut
import Derived.ShutString
import Derived.ChangeOld
import Derived.Below
import Derived.SizedLaws
namespace Go.Proofs.Ytmbmalkpmanaaaa.P
set_option linter.unusedVariables false
set_option linter.unusedSimpArgs false
open Go.RowKit Go.Proofs.YtmbmalkpmanaaaaW.aK Go.Proofs.YtmbmalkpmanaaaaW.bM
variable {p c : Int} {core : List (List Sp)} {odd : List Gn}
theorem acD {i : Int} (h : -9223372036854775808 ≤ i) (h2 : i ≤ 9223372036854775807) : yK i = true := by unfold yK; simp; omega
theorem aeu (i : Int) : yD (nH odd) i = 0 ↔ lW odd i = none := by
  rw [ajI, xZ]
  unfold nH
  simp
theorem SF.guard (h : SF p c core odd) : odd.length < 1000000000 ∧ odd.all (fun g => yK g.f0) = true := by
  have := h.hlo
  refine ⟨by omega, ?_⟩
  rw [List.all_eq_true]
  intro g hg
  have := h.hidx g hg
  unfold inR at this
  exact acD (by omega) (by omega)
theorem afl (h : SF p c core odd) (t : TF p core) {i k : Int} (hik : i < k) (hi : gG c core i ≠ []) (hk : gG c core k ≠ []) : gHi p c core [] i < gLo p c core [] k := ain h t hik hi hk
theorem asb (h : SF p c core odd) {i : Int} (hi : gG c core i ≠ []) : gLo p c core [] i ≤ gHi p c core [] i := h.tO.pV hi
structure PnU (p c : Int) (core : List (List Sp)) (odd : List Gn) (T : Int) (r : Int × Bool) : Prop where
  y : r.2 = true → Ex p c core [] r.1 ∧ lW odd r.1 = none ∧ T ≤ gHi p c core [] r.1 ∧ ∀ m, Ex p c core [] m → lW odd m = none → T ≤ gHi p c core [] m → r.1 ≤ m
  n : r.2 = false → r.1 = 0 ∧ ∀ m, Ex p c core [] m → lW odd m = none → ¬ T ≤ gHi p c core [] m
theorem aev (h : SF p c core odd) (t : TF p core) (T : Int) (hT : -1099511627777 ≤ T) : ∀ (d : Nat) (i : Int) (ok : Bool) (b : Int),
    (ok = true → (1099511627777 - i).toNat ≤ d) → (ok = true → inR i ∧ gG c core i ≠ [] ∧ T ≤ gHi p c core [] i) →
    (∀ m, Ex p c core [] m → lW odd m = none → T ≤ gHi p c core [] m → ok = true ∧ i ≤ m) → 0 ≤ b → b ≤ 2 →
    (1 ≤ b → ok = true → ∀ m, i ≤ m → gG c core m ≠ [] → -1099511627776 ≤ gLo p c core [] m) →
    (2 ≤ b → ok = true → ∀ m, i ≤ m → gG c core m ≠ [] → 1099511627776 < gLo p c core [] m) →
    ∃ r, Ev (fun k => bT.l1 k i ok b p c core odd) r ∧ PnU p c core odd T r := by
  intro d
  induction d with
  | zero =>
    intro i ok b hd hA hB h0 h2 hC hD
    have hok : ok = false := by
      cases ok with
      | true => have := hA rfl; have := this.1; unfold inR at this; have := hd rfl; omega
      | false => rfl
    subst hok
    exact ⟨(0, false), Ev.step (f := fun _ => some (0, false)) (fun k => by rw [bT.l1, if_neg (by simp)]) (Ev.now _), ⟨(fun e => by cases e), fun _ => ⟨rfl, fun m m1 m2 m3 => by cases (hB m m1 m2 m3).1⟩⟩⟩
  | succ d ih =>
    intro i ok b hd hA hB h0 h2 hC hD
    cases ok with
    | false => exact ⟨(0, false), Ev.step (f := fun _ => some (0, false)) (fun k => by rw [bT.l1, if_neg (by simp)]) (Ev.now _), ⟨(fun e => by cases e), fun _ => ⟨rfl, fun m m1 m2 m3 => by cases (hB m m1 m2 m3).1⟩⟩⟩
    | true =>
      obtain ⟨a1, a2, a3⟩ := hA rfl
      have hd := hd rfl
      by_cases hb : b < 2
      · obtain ⟨n, n1, n2⟩ := xQ h.tO i (by unfold inR at a1; omega)
        have gev := uF h.tO i
        have next : ∀ (b' : Int), 0 ≤ b' → b' ≤ 2 → (∀ m, Ex p c core [] m → lW odd m = none → m ≠ i) →
            (1 ≤ b' → ∀ m, i < m → gG c core m ≠ [] → -1099511627776 ≤ gLo p c core [] m) → (2 ≤ b' → ∀ m, i < m → gG c core m ≠ [] → 1099511627776 < gLo p c core [] m) →
            ∃ r, Ev (fun k => bT.l1 k n.1 n.2 b' p c core odd) r ∧ PnU p c core odd T r := by
          intro b' g0 g2 gi gC gD
          unfold inR at a1
          refine ih n.1 n.2 b' (fun e => ?_) (fun e => ?_) (fun m m1 m2 m3 => ?_) g0 g2 (fun e1 e2 m hm => ?_) (fun e1 e2 m hm => ?_)
          · have := (n2.1 e).1; omega
          · obtain ⟨q1, q2, q3, q4⟩ := n2.1 e
            have := afl h t (i := i) (k := n.1) (by omega) a2 q3
            have := asb h q3
            exact ⟨q2, q3, by omega⟩
          · have g3 := (hB m m1 m2 m3).2
            have g4 := gi m m1 m2
            have g5 := m1.r
            cases hn : n.2 with
            | true =>
              refine ⟨rfl, Classical.byContradiction fun hx => ?_⟩
              unfold inR at g5
              exact m1.n ((n2.1 hn).2.2.2 m (by omega) (by omega))
            | false =>
              exact absurd ((n2.2 hn).2 m (by unfold inR at g5; omega) g5) m1.n
          · have := (n2.1 e2).1; exact gC e1 m (by omega)
          · have := (n2.1 e2).1; exact gD e1 m (by omega)
        by_cases hx : Ex p c core [] i
        · rw [h.tO.qP hx] at gev
          by_cases ho : lW odd i = none
          · refine ⟨(i, true), Ev.step (fun k => by rw [bT.l1, if_pos rfl, if_pos hb]) (Ev.bind gev (Ev.congr (fun k => by rw [if_pos rfl, if_pos (acD (by unfold inR at a1; omega) (by unfold inR at a1; omega)), if_pos ((aeu i).2 ho)]) (Ev.now _))), ⟨fun _ => ⟨hx, ho, a3, fun m m1 m2 m3 => (hB m m1 m2 m3).2⟩, fun e => by cases e⟩⟩
          · obtain ⟨r, r1, r2⟩ := next b h0 h2 (fun m _ m2 e => ho (by rw [← e]; exact m2)) (fun e m hm => hC e rfl m (by omega)) (fun e m hm => hD e rfl m (by omega))
            refine ⟨r, Ev.step (fun k => by rw [bT.l1, if_pos rfl, if_pos hb]) (Ev.bind gev (Ev.congr (fun k => by rw [if_pos rfl, if_pos (acD (by unfold inR at a1; omega) (by unfold inR at a1; omega)), if_neg (fun e => ho ((aeu i).1 e))]) (Ev.bind n1 r1))), r2⟩
        · rw [h.tO.aes a2 hx] at gev
          have hw : wrap64 (b + 1) = b + 1 := eH (by omega) (by omega)
          obtain ⟨r, r1, r2⟩ := next (b + 1) (by omega) (by omega) (fun m m1 _ e => hx (by rw [← e]; exact m1)) (fun _ m hm hmn => by
              have := afl h t hm a2 hmn
              omega) (fun e m hm hmn => by
              have q1 := afl h t hm a2 hmn
              have q2 := hC (by omega) rfl i (Int.le_refl _) a2
              refine Classical.byContradiction fun hq => hx ⟨a1, a2, q2, ?_⟩
              omega)
          refine ⟨r, Ev.step (fun k => by rw [bT.l1, if_pos rfl, if_pos hb]) (Ev.bind gev (Ev.congr (fun k => by rw [if_neg (by simp), hw]) (Ev.bind n1 r1))), r2⟩
      · refine ⟨(0, false), Ev.step (f := fun _ => some (0, false)) (fun k => by rw [bT.l1, if_pos rfl, if_neg hb]) (Ev.now _), ⟨(fun e => by cases e), fun _ => ⟨rfl, fun m m1 m2 m3 => ?_⟩⟩⟩
        have q1 := hD (by omega) rfl m (hB m m1 m2 m3).2 m1.n
        have q2 := asb h m1.n
        have := m1.hi
        omega
theorem ahr (h : SF p c core odd) (t : TF p core) (T : Int) (hT : -1099511627777 ≤ T ∧ T ≤ 1099511627777) : ∃ r, Ev (fun k => bT.f k p c core odd T) r ∧ PnU p c core odd T r := by
  obtain ⟨a, a1, a2⟩ := ahq h T hT
  have start : ∀ {r : Int × Bool}, Ev (fun k => if a.2 = true then (fT.f k p c core [] (wrap64 (a.1 - 1))).bind fun n => bT.l1 k n.1 n.2 0 p c core odd else some (0, false)) r → Ev (fun k => bT.f k p c core odd T) r := fun he => by
    refine Ev.congr (fun k => by rw [bT.f, if_pos h.guard]) ?_
    exact Ev.bind a1 he
  have b1 := a2.lo
  have b2 := a2.hi
  cases ha : a.2 with
  | false => exact ⟨(0, false), start (Ev.congr (fun k => by rw [ha, if_neg (by simp)]) (Ev.now _)), ⟨(fun e => by cases e), fun _ => ⟨rfl, fun m m1 _ _ => m1.n (a2.n ha m)⟩⟩⟩
  | true =>
    obtain ⟨q1, q2, q3⟩ := a2.y ha
    have hw : wrap64 (a.1 - 1) = a.1 - 1 := eH (by omega) (by omega)
    obtain ⟨n, n1, n2⟩ := xQ h.tO (a.1 - 1) (by omega)
    obtain ⟨r, r1, r2⟩ := aev h t T hT.1 (1099511627777 - n.1).toNat n.1 n.2 0 (fun _ => Nat.le_refl _) (fun e => by
      obtain ⟨g1, g2, g3, g4⟩ := n2.1 e
      refine ⟨g2, g3, ?_⟩
      rcases Int.lt_trichotomy a.1 n.1 with g | g | g
      · have := afl h t g q1 g3
        have := asb h g3
        omega
      · rw [← g]; exact q2
      · omega) (fun m m1 m2 m3 => by
      have g3 := q3 m m1.n m3
      have g5 := m1.r
      cases hn : n.2 with
      | true =>
        refine ⟨rfl, Classical.byContradiction fun hx => ?_⟩
        unfold inR at g5
        exact m1.n ((n2.1 hn).2.2.2 m (by omega) (by omega))
      | false => exact absurd ((n2.2 hn).2 m (by unfold inR at g5; omega) g5) m1.n) (by omega) (by omega) (fun e => by omega) (fun e => by omega)
    exact ⟨r, start (Ev.congr (fun k => by rw [ha, if_pos rfl, hw]) (Ev.bind n1 r1)), r2⟩
theorem acE {m : Int} (ho : lW odd m = none) : fs c core odd m = gG c core m ∧ gLo p c core odd m = gLo p c core [] m ∧ gHi p c core odd m = gHi p c core [] m := by
  have e1 : fs c core odd m = gG c core m := by unfold fs; rw [ho]
  have e2 : fb p c odd m = m / c * p := by unfold fb; rw [ho]
  refine ⟨e1, ?_, ?_⟩
  · unfold gLo; rw [e1, e2]; rfl
  · unfold gHi; rw [e1, e2]; rfl
theorem aaP {m : Int} (ho : lW odd m = none) : Ex p c core odd m ↔ Ex p c core [] m := by
  obtain ⟨e1, e2, e3⟩ := acE (p := p) (c := c) (core := core) ho
  constructor
  · intro g; exact ⟨g.r, by rw [show fs c core [] m = gG c core m from rfl, ← e1]; exact g.n, by rw [← e2]; exact g.lo, by rw [← e3]; exact g.hi⟩
  · intro g; exact ⟨g.r, by rw [e1]; exact g.n, by rw [e2]; exact g.lo, by rw [e3]; exact g.hi⟩
theorem alD (h : SF p c core odd) {j : Nat} (hj : j < odd.length) : fs c core odd odd[j].f0 = odd[j].f1 ∧ gLo p c core odd odd[j].f0 = qF odd[j].f1 ∧ gHi p c core odd odd[j].f0 = qH odd[j].f1 := by
  have e1 := afi h hj
  have e2 : fb p c odd odd[j].f0 = 0 := by unfold fb; rw [acz h.hup (List.getElem_mem hj)]
  refine ⟨e1, ?_, ?_⟩
  · unfold gLo; rw [e1, e2]; omega
  · unfold gHi; rw [e1, e2]; omega
theorem an7 (h : SF p c core odd) {j : Nat} (hj : j < odd.length) (hn : odd[j].f1 ≠ []) : Ex p c core odd odd[j].f0 := by
  obtain ⟨e1, e2, e3⟩ := alD h hj
  have := (h.hodd _ (List.getElem_mem hj)).ends hn
  exact ⟨h.hidx _ (List.getElem_mem hj), by rw [e1]; exact hn, by rw [e2]; omega, by rw [e3]; omega⟩
theorem an8 {m : Int} : lW odd m = none ∨ ∃ j, ∃ hj : j < odd.length, odd[j].f0 = m := by
  cases ho : lW odd m with
  | none => exact .inl rfl
  | some l =>
    obtain ⟨g, hg, e1, e2⟩ := vk ho
    obtain ⟨j, hj, rfl⟩ := List.getElem_of_mem hg
    exact .inr ⟨j, hj, e1⟩
structure FrU (p c : Int) (core : List (List Sp)) (odd : List Gn) (T : Int) (r : Int × Bool) : Prop where
  y : r.2 = true → Ex p c core odd r.1 ∧ T ≤ gHi p c core odd r.1 ∧ ∀ m, Ex p c core odd m → T ≤ gHi p c core odd m → r.1 ≤ m
  n : r.2 = false → r.1 = 0 ∧ ∀ m, Ex p c core odd m → ¬ T ≤ gHi p c core odd m
theorem acF (h : SF p c core odd) (T : Int) : ∀ (d n : Nat) (a : Int) (ok : Bool), odd.length - n = d → n ≤ odd.length →
    (ok = true → Ex p c core odd a ∧ T ≤ gHi p c core odd a) → (∀ m, Ex p c core odd m → T ≤ gHi p c core odd m → (lW odd m = none ∨ ∃ j, ∃ hj : j < odd.length, j < n ∧ odd[j].f0 = m) → ok = true ∧ a ≤ m) → (ok = false → a = 0) →
    ∃ r, Ev (fun k => bg.l0 k T a ok odd (odd.length : Int) (n : Int) 1) r ∧ FrU p c core odd T r := by
  have hlo := h.hlo
  intro d
  induction d with
  | zero =>
    intro n a ok hd hn i1 i2 i3
    refine ⟨(a, ok), Ev.step (f := fun _ => some (a, ok)) (fun k => by rw [bg.l0, if_neg (by omega)]) (Ev.now _), ?_⟩
    have all : ∀ m, lW odd m = none ∨ ∃ j, ∃ hj : j < odd.length, j < n ∧ odd[j].f0 = m := fun m => by
      rcases an8 (odd := odd) (m := m) with g | ⟨j, hj, g⟩
      · exact .inl g
      · exact .inr ⟨j, hj, by omega, g⟩
    cases ok with
    | true => exact ⟨fun _ => ⟨(i1 rfl).1, (i1 rfl).2, fun m m1 m2 => (i2 m m1 m2 (all m)).2⟩, fun e => by cases e⟩
    | false => exact ⟨(fun e => by cases e), fun _ => ⟨i3 rfl, fun m m1 m2 => by cases (i2 m m1 m2 (all m)).1⟩⟩
  | succ d ih =>
    intro n a ok hd hn i1 i2 i3
    have hlt : n < odd.length := by omega
    have hw : wrap64 ((n : Int) + 1) = ((n + 1 : Nat) : Int) := by rw [eH (by omega) (by omega)]; simp
    have hSL := h.hodd _ (List.getElem_mem hlt)
    have hlen : odd[n].f1.length ≤ 4611686018427387904 := by have := hSL.ac3; omega
    obtain ⟨e1, e2, e3⟩ := alD h hlt
    have skip : (odd[n].f1 = [] ∨ ¬ T ≤ qH odd[n].f1 ∨ ok = true ∧ a ≤ odd[n].f0) → ∃ r, Ev (fun k => bg.l0 k T a ok odd (odd.length : Int) ((n + 1 : Nat) : Int) 1) r ∧ FrU p c core odd T r := fun hs => by
      refine ih (n + 1) a ok (by omega) (by omega) i1 (fun m m1 m2 m3 => ?_) i3
      rcases m3 with g | ⟨j, hj, g, g2⟩
      · exact i2 m m1 m2 (.inl g)
      · rcases Nat.lt_or_ge j n with g3 | g3
        · exact i2 m m1 m2 (.inr ⟨j, hj, g3, g2⟩)
        · have : j = n := by omega
          subst this
          subst g2
          rcases hs with hs | hs | hs
          · exact absurd (by rw [e1]; exact hs) m1.n
          · exact absurd (by rw [← e3]; exact m2) hs
          · exact hs
    by_cases hz : odd[n].f1 = []
    · obtain ⟨r, r1, r2⟩ := skip (.inl hz)
      refine ⟨r, Ev.step (fun k => ?_) r1, r2⟩
      rw [bg.l0, if_pos (by omega), if_pos (by omega), if_pos (by omega), rdG odd n hlt, tN _ hlen, mO, if_pos hz, Option.bind_some, if_neg (by simp), hw]
    · by_cases hso : T ≤ qH odd[n].f1
      · have take : (ok = true → odd[n].f0 ≤ a) → ∃ r, Ev (fun k => bg.l0 k T odd[n].f0 true odd (odd.length : Int) ((n + 1 : Nat) : Int) 1) r ∧ FrU p c core odd T r := fun hle => by
          refine ih (n + 1) odd[n].f0 true (by omega) (by omega) (fun _ => ⟨an7 h hlt hz, by rw [e3]; exact hso⟩) (fun m m1 m2 m3 => ⟨rfl, ?_⟩) (fun e => by cases e)
          rcases m3 with g | ⟨j, hj, g, g2⟩
          · obtain ⟨q1, q2⟩ := i2 m m1 m2 (.inl g); have := hle q1; omega
          · rcases Nat.lt_or_ge j n with g3 | g3
            · obtain ⟨q1, q2⟩ := i2 m m1 m2 (.inr ⟨j, hj, g3, g2⟩); have := hle q1; omega
            · have : j = n := by omega
              subst this; subst g2; exact Int.le_refl _
        have hd : decide (qH odd[n].f1 ≥ T) = true := decide_eq_true hso
        by_cases hok : ok = true
        · have hr1 := (i1 hok).1.r
          have hr2 := h.hidx _ (List.getElem_mem hlt)
          unfold inR at hr1 hr2
          have w3 : wrap64 (wrap64 (odd[n].f0 - a) * 1) = odd[n].f0 - a := by rw [Int.mul_one, eH (n := odd[n].f0 - a) (by omega) (by omega), eH (by omega) (by omega)]
          by_cases hlt2 : odd[n].f0 - a < 0
          · obtain ⟨r, r1, r2⟩ := take (fun _ => by omega)
            refine ⟨r, Ev.step (fun k => ?_) r1, r2⟩
            rw [bg.l0, if_pos (by omega), if_pos (by omega), if_pos (by omega), rdG odd n hlt, tN _ hlen, mO, if_neg hz, Option.bind_some, if_pos rfl, mR.f, Option.bind_some, if_pos hd, if_pos hok, w3, if_pos hlt2, hw]
          · obtain ⟨r, r1, r2⟩ := skip (.inr (.inr ⟨hok, by omega⟩))
            refine ⟨r, Ev.step (fun k => ?_) r1, r2⟩
            rw [bg.l0, if_pos (by omega), if_pos (by omega), if_pos (by omega), rdG odd n hlt, tN _ hlen, mO, if_neg hz, Option.bind_some, if_pos rfl, mR.f, Option.bind_some, if_pos hd, if_pos hok, w3, if_neg hlt2, hw]
        · obtain ⟨r, r1, r2⟩ := take (fun e => absurd e hok)
          refine ⟨r, Ev.step (fun k => ?_) r1, r2⟩
          rw [bg.l0, if_pos (by omega), if_pos (by omega), if_pos (by omega), rdG odd n hlt, tN _ hlen, mO, if_neg hz, Option.bind_some, if_pos rfl, mR.f, Option.bind_some, if_pos hd, if_neg hok, hw]
      · obtain ⟨r, r1, r2⟩ := skip (.inr (.inl hso))
        refine ⟨r, Ev.step (fun k => ?_) r1, r2⟩
        have hd : ¬ decide (qH odd[n].f1 ≥ T) = true := by simp; omega
        rw [bg.l0, if_pos (by omega), if_pos (by omega), if_pos (by omega), rdG odd n hlt, tN _ hlen, mO, if_neg hz, Option.bind_some, if_pos rfl, mR.f, Option.bind_some, if_neg hd, hw]
def cl (t : Int) : Int := mx (mn t 1099511627777) (-1099511627777)
theorem auf (t : Int) : cl t = max (min t 1099511627777) (-1099511627777) := by unfold cl; rw [arz, arx]
theorem yV (h : FOK p c core odd) (t : Int) : ∃ r, Ev (fun k => bP.f k p c core odd t) r ∧ FrU p c core odd t r := by
  have hcl := auf t
  obtain ⟨a, a1, a2⟩ := ahr h.s h.t (cl t) (by omega)
  obtain ⟨r, r1, r2⟩ := acF h.s (cl t) _ 0 a.1 a.2 rfl (by omega) (fun e => by
    obtain ⟨q1, q2, q3, q4⟩ := a2.y e
    exact ⟨(aaP q2).2 q1, by rw [(acE q2).2.2]; exact q3⟩) (fun m m1 m2 m3 => by
    rcases m3 with g | ⟨j, hj, g, _⟩
    · have m2' := m2
      rw [(acE g).2.2] at m2'
      cases ha : a.2 with
      | true => exact ⟨rfl, (a2.y ha).2.2.2 m ((aaP g).1 m1) g m2'⟩
      | false => exact absurd m2' ((a2.n ha).2 m ((aaP g).1 m1) g)
    · omega) (fun e => (a2.n e).1)
  have tr : ∀ m, Ex p c core odd m → (t ≤ gHi p c core odd m ↔ cl t ≤ gHi p c core odd m) := fun m e => by
    have := e.lo
    have := e.hi
    have := h.s.pV e.n
    omega
  refine ⟨r, ?_, ⟨fun e => ?_, fun e => ⟨(r2.n e).1, fun m m1 m2 => (r2.n e).2 m m1 ((tr m m1).1 m2)⟩⟩⟩
  · unfold bP.f
    refine Ev.bind (Ev.val rfl) ?_
    refine Ev.bind (a := (r.1, r.2)) ?_ (Ev.now _)
    unfold bg.f
    exact Ev.bind a1 r1
  · obtain ⟨q1, q2, q3⟩ := r2.y e
    exact ⟨q1, (tr _ q1).2 q2, fun m m1 m2 => q3 m m1 ((tr m m1).1 m2)⟩
end Go.Proofs.Ytmbmalkpmanaaaa.P
namespace Go.Proofs.Ytmbmalkpmanaaaa.P
set_option linter.unusedVariables false
set_option linter.unusedSimpArgs false
open Go.RowKit Go.Proofs.YtmbmalkpmanaaaaW.aK Go.Proofs.YtmbmalkpmanaaaaW.bM
variable {p c : Int} {core : List (List Sp)} {odd : List Gn}
structure PlD (p c : Int) (core : List (List Sp)) (T : Int) (r : Int × Bool) : Prop where
  y : r.2 = true → gG c core r.1 ≠ [] ∧ gLo p c core [] r.1 ≤ T ∧ ∀ m, gG c core m ≠ [] → gLo p c core [] m ≤ T → m ≤ r.1
  n : r.2 = false → ∀ m, gG c core m = []
  lo : -4611686018427387904 ≤ r.1
  hi : r.1 ≤ 4611686018427387904
structure PnD (p c : Int) (core : List (List Sp)) (odd : List Gn) (T : Int) (r : Int × Bool) : Prop where
  y : r.2 = true → Ex p c core [] r.1 ∧ lW odd r.1 = none ∧ gLo p c core [] r.1 ≤ T ∧ ∀ m, Ex p c core [] m → lW odd m = none → gLo p c core [] m ≤ T → m ≤ r.1
  n : r.2 = false → r.1 = 0 ∧ ∀ m, Ex p c core [] m → lW odd m = none → ¬ gLo p c core [] m ≤ T
structure TlD (p c : Int) (core : List (List Sp)) (odd : List Gn) (T : Int) (r : Int × Bool) : Prop where
  y : r.2 = true → Ex p c core odd r.1 ∧ gLo p c core odd r.1 ≤ T ∧ ∀ m, Ex p c core odd m → gLo p c core odd m ≤ T → m ≤ r.1
  n : r.2 = false → r.1 = 0 ∧ ∀ m, Ex p c core odd m → ¬ gLo p c core odd m ≤ T
end Go.Proofs.Ytmbmalkpmanaaaa.P
namespace Go.Proofs.Ytmbmalkpmanaaaa.P
set_option linter.unusedVariables false
set_option linter.unusedSimpArgs false
open Go.RowKit Go.Shelf Go.Proofs.YtmbmalkpmanaaaaW.aK Go.Proofs.YtmbmalkpmanaaaaW.bK Go.Proofs.YtmbmalkpmanaaaaW.bM
def aex : List (List S23) := [[⟨0, 4⟩]]
theorem arB : mQ.f [⟨0, 4⟩] [⟨3, 8⟩] = some [⟨3, 4⟩] := by
  obtain ⟨h1, h2⟩ := aaM (fun a b => a && b) rfl (lo := 0) (hi := 100) (by omega) (by omega) (a := [⟨0, 4⟩]) (b := [⟨3, 8⟩]) (by simp [SL]) (by simp [SL])
  have : yh (fun a b => a && b) [⟨0, 4⟩] [⟨3, 8⟩] = [⟨3, 4⟩] := SL.uniq h1 (show SL 0 100 _ by simp [SL]) (fun x => by
    rw [h2, Bool.eq_iff_iff]; simp [qE]; omega)
  unfold mQ.f; rw [if_pos (by simp [many]), this]
theorem arC : mQ.f [⟨7, 11⟩] [⟨3, 8⟩] = some [⟨7, 8⟩] := by
  obtain ⟨h1, h2⟩ := aaM (fun a b => a && b) rfl (lo := 0) (hi := 100) (by omega) (by omega) (a := [⟨7, 11⟩]) (b := [⟨3, 8⟩]) (by simp [SL]) (by simp [SL])
  have : yh (fun a b => a && b) [⟨7, 11⟩] [⟨3, 8⟩] = [⟨7, 8⟩] := SL.uniq h1 (show SL 0 100 _ by simp [SL]) (fun x => by
    rw [h2, Bool.eq_iff_iff]; simp [qE]; omega)
  unfold mQ.f; rw [if_pos (by simp [many]), this]
theorem ano : dM.f 60 7 1 aex [] [⟨3, 8⟩] = some ([0, 1], 0) := by
  have h : fF.f 60 7 1 aex [] 3 8 = some [(0, [⟨0, 4⟩]), (1, [⟨7, 11⟩])] := by with_unfolding_all rfl
  have hr : bE.f 60 [⟨3, 8⟩] = some true := by with_unfolding_all rfl
  have hh : eD.f [⟨3, 8⟩] = some (3, 8, true) := by with_unfolding_all rfl
  simp only [dM.f, hr, hh, h, Option.bind_some, if_true, dM.l, oO.f, arB, arC]
  rfl
theorem anp : dM.f 60 7 1 aex [] [⟨5, 6⟩] = some ([], 0) := by
  have h : fF.f 60 7 1 aex [] 5 6 = some [] := by with_unfolding_all rfl
  have hr : bE.f 60 [⟨5, 6⟩] = some true := by with_unfolding_all rfl
  have hh : eD.f [⟨5, 6⟩] = some (5, 6, true) := by with_unfolding_all rfl
  simp only [dM.f, hr, hh, h, Option.bind_some, if_true, dM.l]
theorem auh : jr.f 60 7 1 aex [] 9 = some (1, true) := by with_unfolding_all rfl
theorem aui : jr.f 60 7 1 aex [] 5 = some (0, false) := by with_unfolding_all rfl
theorem anq : bP.f 60 7 1 aex [] 5 = some (1, true) := by with_unfolding_all rfl
theorem anr : bV.f 60 7 1 aex [] 5 = some (0, true) := by with_unfolding_all rfl
theorem arD : bF.f 60 [0, 1] [0, 1] = some true := by with_unfolding_all rfl
theorem ant : bP.f 60 0 0 [] [⟨3, [⟨5, 6⟩]⟩] 7 = some (0, false) := by with_unfolding_all rfl
theorem anu : bV.f 60 0 0 [] [⟨3, [⟨5, 6⟩]⟩] 100 = some (3, true) := by with_unfolding_all rfl
theorem alF : aY.f 60 = some true := by
  unfold aY.f kW.f
  rw [Option.bind_some, Option.bind_some]
  dsimp only
  rw [show ([[⟨0, 4⟩]] : List (List S23)) = aex from rfl]
  rw [ano, Option.bind_some, anp, Option.bind_some]
  rw [show aX.f 1 true = some 0 from rfl, Option.bind_some, auh, Option.bind_some]
  rw [show aJ.f 1 true 1 true = some true from rfl, Option.bind_some, if_pos rfl]
  rw [show aX.f 0 false = some 0 from rfl, Option.bind_some, aui, Option.bind_some]
  rw [show aJ.f 0 false 0 false = some true from rfl, Option.bind_some, if_pos rfl]
  rw [Option.bind_some, anq, Option.bind_some]
  rw [show aJ.f 1 true 1 true = some true from rfl, Option.bind_some, if_pos rfl]
  rw [show aX.f 0 true = some 0 from rfl, Option.bind_some, anr, Option.bind_some]
  rw [show aJ.f 0 true 0 true = some true from rfl, Option.bind_some, if_pos rfl]
  rw [if_pos rfl, if_pos rfl, arD, Option.bind_some, if_pos rfl]
  rw [show ((([], 0) : List Int × Int).1.length : Int) = 0 from rfl, if_pos rfl]
  rw [Option.bind_some, ant, Option.bind_some]
  rw [show aJ.f 0 false 0 false = some true from rfl, Option.bind_some, if_pos rfl]
  rw [show aX.f 3 true = some 0 from rfl, Option.bind_some, anu, Option.bind_some]
  rfl
theorem pW : Ev (fun k => aY.f k) true := Ev.of aY.mono alF
end Go.Proofs.Ytmbmalkpmanaaaa.P
namespace Go.Proofs.Ytmbmalkpmanaaaa.P
set_option linter.unusedVariables false
set_option linter.unusedSimpArgs false
open Go.RowKit Go.ChangeShapes Go.WideShapes Go.Deep Go.Proofs.YtmbmalkpmanaaaaW.aK Go.Proofs.YtmbmalkpmanaaaaW.bM
theorem aji {cs : List Value} (h : cs.length = 2) : ∃ a b, cs = [a, b] := by
  match cs, h with
  | [a, b], _ => exact ⟨a, b, rfl⟩
theorem ajk {cs : List Value} (h : cs.length = 4) : ∃ a b c d, cs = [a, b, c, d] := by
  match cs, h with
  | [a, b, c, d], _ => exact ⟨a, b, c, d, rfl⟩
theorem ahu {T : Type} (k : Kd T) {H : Type} {enc : TypeId × Value → H} {w : World} {base : Nat} {held : Bool} {t e : TypeId} {fuel : Nat} {cs : List Value} {x : DataW H × List MemPlace}
    (ht : Try.prog.underlying t = some (.slice e)) (hn : Try.prog.cellsOf e = k.sz) (Q : T → Prop)
    (op : ∀ fuel cs x, DataW.trod enc Try.prog w base (fun _ => true) held fuel e cs = some x → ∃ v, k.K w v cs ∧ Q v)
    (h : DataW.trod enc Try.prog w base (fun _ => true) held fuel t cs = some x) :
    ∃ (a : Option Addr) (cap : Nat) (l : List T), cs = [.slice a l.length cap] ∧ l.length ≤ cap ∧ Kd.C k w a l.length l ∧ (∀ s ∈ l, Q s) ∧ l.length ≤ 9223372036854775807 := by
  rcases open_slice ht h with ⟨hc, _⟩ | ⟨a, len, cap, m, n, D, Pl, hc, hb, hl, hm, hmm, hx, hi⟩
  · exact ⟨none, 0, [], by rw [hc]; rfl, Nat.le_refl _, ⟨rfl, by simp, fun h => absurd h (by simp)⟩, by simp, by simp⟩
  · have hlm : len ≤ m := by rw [hmm]; simpa using hl
    have hk : ∀ i, i < len → ∃ v cs', k.K w v cs' ∧ Q v ∧ ∀ j u, cs'[j]? = some u → w.cell? (a.add (i * k.sz + j)) = some u := by
      intro i hi'
      obtain ⟨cs', h1, h2⟩ := hi i (by omega)
      rw [hn] at h1
      obtain ⟨_, hlen, hcell⟩ := World.cells?_some h1
      obtain ⟨v, v1, v2⟩ := op _ _ _ h2
      refine ⟨v, cs', v1, v2, fun j u hu => ?_⟩
      have hj : j < k.sz := by rw [← hlen]; exact (List.getElem?_eq_some_iff.1 hu).1
      have := hcell j hj
      rw [Deep.add_add] at this
      rw [this, hu]
    have hmax : len ≤ 9223372036854775807 := by unfold maxLen at hm; omega
    suffices key : ∀ q, q ≤ len → ∃ l : List T, l.length = q ∧ (∀ j s, l[j]? = some s → ∃ cs', k.K w s cs' ∧ ∀ i u, cs'[i]? = some u → w.cell? (a.add (j * k.sz + i)) = some u) ∧ ∀ s ∈ l, Q s by
      obtain ⟨l, rfl, hl2, hfit⟩ := key len (Nat.le_refl _)
      refine ⟨some a, cap, l, hc, hl, ⟨rfl, hmax, fun _ => ⟨a, rfl, fun j s hj => ?_⟩⟩, hfit, hmax⟩
      obtain ⟨cs', g1, g2⟩ := hl2 j s hj
      exact ⟨cs', k.vC g1, g1, g2⟩
    intro q
    induction q with
    | zero => exact fun _ => ⟨[], rfl, fun j s h => by simp at h, by simp⟩
    | succ q ih =>
      intro hk'
      obtain ⟨l, hl1, hl2, hl3⟩ := ih (by omega)
      obtain ⟨s, cs', h0, h1, h2⟩ := hk q (by omega)
      refine ⟨l ++ [s], by simp [hl1], fun j t hj => ?_, fun t ht => ?_⟩
      · by_cases hjk : j < l.length
        · rw [List.getElem?_append_left hjk] at hj; exact hl2 j t hj
        · rw [List.getElem?_append_right (by omega)] at hj
          have : j - l.length = 0 := by
            by_cases e : j - l.length = 0
            · exact e
            · rw [List.getElem?_eq_none (by simp; omega)] at hj; cases hj
          rw [this] at hj
          simp at hj
          subst hj
          have : j = q := by omega
          subst this
          exact ⟨cs', h0, h2⟩
      · simp at ht
        rcases ht with ht | rfl
        · exact hl3 t ht
        · exact h1
section
variable {H : Type} {enc : TypeId × Value → H} {w : World} {base : Nat} {held : Bool} {fuel : Nat} {cs : List Value} {x : DataW H × List MemPlace}
theorem xR (h : DataW.trod enc Try.prog w base (fun _ => true) held fuel 3 cs = some x) : ∃ n, cs = [.int .i64 n] ∧ fits n := by
  obtain ⟨n, e0, _, w0⟩ := DataW.trod_int Try.underlying3 h
  exact ⟨n, e0, w0⟩
theorem arE (h : DataW.trod enc Try.prog w base (fun _ => true) held fuel 23 cs = some x) : ∃ s : Sp, k23.K w s cs ∧ acv s := by
  obtain ⟨xs, n, _, _, hl, hxs, hf⟩ := DataW.trod_struct Try.underlying23 h
  have e9 : Try.prog.cellsOf 23 = 2 := by kernel_rfl
  rw [e9] at hl
  have hl2 : cs.length = 2 := hl
  clear hl e9
  obtain ⟨v0, v1, rfl⟩ := aji hl2
  have g0 : DataW.trod enc Try.prog w base (fun _ => true) held n 3 (List.take (Try.prog.cellsOf 3) (List.drop 0 [v0, v1])) = xs[0]? := hf 0 _ rfl
  rw [show Try.prog.cellsOf 3 = 1 by kernel_rfl] at g0
  have g1 : DataW.trod enc Try.prog w base (fun _ => true) held n 3 (List.take (Try.prog.cellsOf 3) (List.drop 1 [v0, v1])) = xs[1]? := hf 1 _ rfl
  rw [show Try.prog.cellsOf 3 = 1 by kernel_rfl] at g1
  cases hx0 : xs[0]? with
  | none => have := List.getElem?_eq_none_iff.1 hx0; rw [hxs] at this; exact absurd this (by decide)
  | some y0 =>
    cases hx1 : xs[1]? with
    | none => have := List.getElem?_eq_none_iff.1 hx1; rw [hxs] at this; exact absurd this (by decide)
    | some y1 =>
      rw [hx0] at g0
      rw [hx1] at g1
      obtain ⟨a, ea, wa⟩ := xR g0
      obtain ⟨b, eb, wb⟩ := xR g1
      have ea' : [v0] = [.int .i64 a] := ea
      have eb' : [v1] = [.int .i64 b] := eb
      injection ea' with ea'
      injection eb' with eb'
      subst ea' eb'
      exact ⟨⟨a, b⟩, asL w ⟨a, b⟩, wa, wb⟩
theorem aiq (h : DataW.trod enc Try.prog w base (fun _ => true) held fuel 24 cs = some x) : ∃ (a : Option Addr) (cap : Nat) (l : List Sp), cs = [.slice a l.length cap] ∧ l.length ≤ cap ∧ Kd.C k23 w a l.length l ∧ (∀ s ∈ l, acv s) ∧ l.length ≤ 9223372036854775807 :=
  ahu k23 Try.underlying24 (by kernel_rfl) acv (fun _ _ _ g => arE g) h
theorem alG (h : DataW.trod enc Try.prog w base (fun _ => true) held fuel 24 cs = some x) : ∃ l : List Sp, (Kd.slice 23 k23).K w l cs ∧ ((∀ s ∈ l, acv s) ∧ l.length ≤ 9223372036854775807) := by
  obtain ⟨a, cap, l, rfl, h1, h2, h3, h4⟩ := aiq h
  exact ⟨l, ⟨a, cap, rfl, h1, h2⟩, h3, h4⟩
theorem alH (h : DataW.trod enc Try.prog w base (fun _ => true) held fuel 25 cs = some x) : ∃ (a : Option Addr) (cap : Nat) (l : List (List Sp)), cs = [.slice a l.length cap] ∧ l.length ≤ cap ∧ Kd.C (Kd.slice 23 k23) w a l.length l ∧ (∀ s ∈ l, (∀ z ∈ s, acv z) ∧ s.length ≤ 9223372036854775807) ∧ l.length ≤ 9223372036854775807 :=
  ahu (Kd.slice 23 k23) Try.underlying25 (by kernel_rfl) _ (fun _ _ _ g => alG g) h
def air (g : S70) : Prop := fits g.f0 ∧ (∀ z ∈ g.f1, acv z) ∧ g.f1.length ≤ 9223372036854775807
theorem arF (h : DataW.trod enc Try.prog w base (fun _ => true) held fuel 70 cs = some x) : ∃ g : S70, k70.K w g cs ∧ air g := by
  obtain ⟨xs, n, _, _, hl, hxs, hf⟩ := DataW.trod_struct Try.underlying70 h
  have e9 : Try.prog.cellsOf 70 = 2 := by kernel_rfl
  rw [e9] at hl
  have hl2 : cs.length = 2 := hl
  clear hl e9
  obtain ⟨v0, v1, rfl⟩ := aji hl2
  have g0 : DataW.trod enc Try.prog w base (fun _ => true) held n 3 (List.take (Try.prog.cellsOf 3) (List.drop 0 [v0, v1])) = xs[0]? := hf 0 _ rfl
  rw [show Try.prog.cellsOf 3 = 1 by kernel_rfl] at g0
  have g1 : DataW.trod enc Try.prog w base (fun _ => true) held n 24 (List.take (Try.prog.cellsOf 24) (List.drop 1 [v0, v1])) = xs[1]? := hf 1 _ rfl
  rw [show Try.prog.cellsOf 24 = 1 by kernel_rfl] at g1
  cases hx0 : xs[0]? with
  | none => have := List.getElem?_eq_none_iff.1 hx0; rw [hxs] at this; exact absurd this (by decide)
  | some y0 =>
    cases hx1 : xs[1]? with
    | none => have := List.getElem?_eq_none_iff.1 hx1; rw [hxs] at this; exact absurd this (by decide)
    | some y1 =>
      rw [hx0] at g0
      rw [hx1] at g1
      obtain ⟨a, ea, wa⟩ := xR g0
      obtain ⟨b, cap, l, eb, l1, l2, l3, l4⟩ := aiq g1
      have ea' : [v0] = [.int .i64 a] := ea
      have eb' : [v1] = [.slice b l.length cap] := eb
      injection ea' with ea'
      injection eb' with eb'
      subst ea' eb'
      exact ⟨⟨a, l⟩, anI w ⟨a, l⟩ l1 l2, wa, l3, l4⟩
theorem anv (h : DataW.trod enc Try.prog w base (fun _ => true) held fuel 26 cs = some x) : ∃ (a : Option Addr) (cap : Nat) (l : List S70), cs = [.slice a l.length cap] ∧ l.length ≤ cap ∧ Kd.C k70 w a l.length l ∧ (∀ s ∈ l, air s) ∧ l.length ≤ 9223372036854775807 :=
  ahu k70 Try.underlying26 (by kernel_rfl) air (fun _ _ _ g => arF g) h
structure ai3 (p c : Int) (core : List (List Sp)) (odd : List S70) : Prop where
  fp : fits p
  fc : fits c
  azK : ∀ l ∈ core, (∀ z ∈ l, acv z) ∧ l.length ≤ 9223372036854775807
  aC2 : ∀ g ∈ odd, air g
  lc : core.length ≤ 9223372036854775807
  lo : odd.length ≤ 9223372036854775807
set_option maxRecDepth 200000 in
theorem acI {b0 : Nat} {v : Value} {d : DataW H} {ps : List MemPlace} (hv : Value.okWide Try.prog w .any b0 28 v) (h : DataW.Trod enc Try.prog w base (fun _ => true) held 28 v d ps) :
    ∃ (p c : Int) (A2 : Option Addr) (c2 : Nat) (core : List (List Sp)) (A3 : Option Addr) (c3 : Nat) (odd : List S70), v = .agg #[.int .i64 p, .int .i64 c, .slice A2 core.length c2, .slice A3 odd.length c3] ∧
      Kd.C (Kd.slice 23 k23) w A2 core.length core ∧ core.length ≤ c2 ∧ Kd.C k70 w A3 odd.length odd ∧ odd.length ≤ c3 ∧ ai3 p c core odd := by
  have hq := okWide_struct (P := Try.prog) (w := w) (r := .any) (base := b0) (t := 28) (v := v) Try.underlying28
  have hq2 := hq hv
  obtain ⟨cs, rfl, hsz⟩ := hq2
  obtain ⟨fuel, h⟩ := h
  obtain ⟨xs, n, _, _, hl, hxs, hf⟩ := DataW.trod_struct Try.underlying28 h
  have e9 : Try.prog.cellsOf 28 = 4 := by kernel_rfl
  rw [e9] at hl
  have hl2 : cs.toList.length = 4 := hl
  clear hl e9
  obtain ⟨l⟩ := cs
  obtain ⟨v0, v1, v2, v3, rfl⟩ := ajk hl2
  have g0 : DataW.trod enc Try.prog w base (fun _ => true) held n 3 (List.take (Try.prog.cellsOf 3) (List.drop 0 [v0, v1, v2, v3])) = xs[0]? := hf 0 _ rfl
  rw [show Try.prog.cellsOf 3 = 1 by kernel_rfl] at g0
  have g1 : DataW.trod enc Try.prog w base (fun _ => true) held n 3 (List.take (Try.prog.cellsOf 3) (List.drop 1 [v0, v1, v2, v3])) = xs[1]? := hf 1 _ rfl
  rw [show Try.prog.cellsOf 3 = 1 by kernel_rfl] at g1
  have g2 : DataW.trod enc Try.prog w base (fun _ => true) held n 25 (List.take (Try.prog.cellsOf 25) (List.drop 2 [v0, v1, v2, v3])) = xs[2]? := hf 2 _ rfl
  rw [show Try.prog.cellsOf 25 = 1 by kernel_rfl] at g2
  have g3 : DataW.trod enc Try.prog w base (fun _ => true) held n 26 (List.take (Try.prog.cellsOf 26) (List.drop 3 [v0, v1, v2, v3])) = xs[3]? := hf 3 _ rfl
  rw [show Try.prog.cellsOf 26 = 1 by kernel_rfl] at g3
  have hx : ∀ j, j < 4 → ∃ y, xs[j]? = some y := fun j hj => ⟨_, List.getElem?_eq_getElem (by rw [hxs]; exact hj)⟩
  obtain ⟨y0, e0⟩ := hx 0 (by omega)
  obtain ⟨y1, e1⟩ := hx 1 (by omega)
  obtain ⟨y2, e2⟩ := hx 2 (by omega)
  obtain ⟨y3, e3⟩ := hx 3 (by omega)
  rw [e0] at g0
  rw [e1] at g1
  rw [e2] at g2
  rw [e3] at g3
  obtain ⟨p, ep, wp⟩ := xR g0
  obtain ⟨c, ec, wc⟩ := xR g1
  obtain ⟨A2, c2, core, e2', l1, l2, l3, l4⟩ := alH g2
  obtain ⟨A3, c3, odd, e3', m1, m2, m3, m4⟩ := anv g3
  have ep' : [v0] = [.int .i64 p] := ep
  have ec' : [v1] = [.int .i64 c] := ec
  have azL : [v2] = [.slice A2 core.length c2] := e2'
  have azM : [v3] = [.slice A3 odd.length c3] := e3'
  injection ep' with ep'
  injection ec' with ec'
  injection azL with azL
  injection azM with azM
  subst ep' ec' azL azM
  exact ⟨p, c, A2, c2, core, A3, c3, odd, rfl, l2, l1, m2, m1, ⟨wp, wc, l3, m3, l4, m4⟩⟩
end
end Go.Proofs.Ytmbmalkpmanaaaa.P
namespace Go.Proofs.Ytmbmalkpmanaaaa.P
set_option linter.unusedVariables false
set_option linter.unusedSimpArgs false
open Go.RowKit Go.Proofs.YtmbmalkpmanaaaaW.aK Go.Proofs.YtmbmalkpmanaaaaW.bM
variable {p c : Int} {core : List (List Sp)} {odd : List Gn}
theorem ai3.mf (f : ai3 p c core odd) : MF core odd := ⟨fun l hl => (f.azK l hl).2, fun g hg => (f.aC2 g hg).2.2⟩
theorem aam (h : SF p c core odd) {x i : Int} (e : Ex p c core odd i) (hx : qE (gT p c core odd i) x = true) : gLo p c core odd i ≤ x ∧ x ≤ gHi p c core odd i := by
  have := (h.alx e).ahl hx
  rw [(aal e.n).2.1, (aal e.n).2.2] at this
  exact this
structure AtS (p c : Int) (core : List (List Sp)) (odd : List Gn) (t : Int) (r : Int × Bool) : Prop where
  y : r.2 = true → Ex p c core odd r.1 ∧ qE (gT p c core odd r.1) t = true
  n : r.2 = false → r.1 = 0 ∧ ∀ m, Ex p c core odd m → qE (gT p c core odd m) t = false
end Go.Proofs.Ytmbmalkpmanaaaa.P
namespace Go.Proofs.Ytmbmalkpmanaaaa.P
set_option linter.unusedVariables false
set_option linter.unusedSimpArgs false
open Go.RowKit Go.Proofs.YtmbmalkpmanaaaaW.aK Go.Proofs.YtmbmalkpmanaaaaW.bM
variable {p c : Int} {core : List (List Sp)} {odd : List Gn}
theorem Ev.map' {α β : Type} {g : Nat → Option α} {r : α} (h : Ev g r) (f : α → β) : Ev (fun n => (g n).map f) (f r) := by
  obtain ⟨K, hK⟩ := h
  exact ⟨K, fun k hk => by show (g k).map f = _; rw [hK k hk]; rfl⟩
theorem afp (h : FOK p c core odd) (h1 : Int) : ∀ (d : Nat) (i : Int) (ok : Bool), (ok = true → (1099511627777 - i).toNat ≤ d) → (ok = true → inR i ∧ fs c core odd i ≠ [] ∧ ∃ j, Ex p c core odd j ∧ j ≤ i) →
    ∃ xs, Ev (fun k => fF.l k i ok h1 p c core odd) xs ∧ xs.Pairwise (fun x y => x.1 < y.1) ∧ (∀ x ∈ xs, ok = true ∧ i ≤ x.1 ∧ Ex p c core odd x.1 ∧ x.2 = gT p c core odd x.1 ∧ gLo p c core odd x.1 ≤ h1) ∧
      (∀ j, ok = true → i ≤ j → Ex p c core odd j → gLo p c core odd j ≤ h1 → (j, gT p c core odd j) ∈ xs) := by
  intro d
  induction d with
  | zero =>
    intro i ok hd hA
    cases ok with
    | false => exact ⟨[], Ev.step (f := fun _ => some []) (fun k => by rw [fF.l, if_neg (by simp)]) (Ev.now _), List.Pairwise.nil, by simp, (fun j e => by cases e)⟩
    | true => have := (hA rfl).1; unfold inR at this; have := hd rfl; omega
  | succ d ih =>
    intro i ok hd hA
    cases ok with
    | false => exact ⟨[], Ev.step (f := fun _ => some []) (fun k => by rw [fF.l, if_neg (by simp)]) (Ev.now _), List.Pairwise.nil, by simp, (fun j e => by cases e)⟩
    | true =>
      obtain ⟨a1, a2, j0, a3, a4⟩ := hA rfl
      have hd := hd rfl
      have gev := uF h.s i
      by_cases hx : Ex p c core odd i
      · rw [h.s.qP hx] at gev
        obtain ⟨t1, t2, t3⟩ := aal (p := p) (c := c) (core := core) (odd := odd) a2
        obtain ⟨y1, y2⟩ := alu _ t1
        have llh := h.s.pV a2
        by_cases hlo : gLo p c core odd i > h1
        · have e1 : Ev (fun k => fF.l k i true h1 p c core odd) [] := by
            refine Ev.step (fun k => by rw [fF.l, if_pos rfl]) ?_
            refine Ev.bind gev (Ev.yes rfl (Ev.yes y1 (Ev.yes ?_ (Ev.now _))))
            rw [y2, t2]; exact hlo
          refine ⟨[], e1, List.Pairwise.nil, by simp, fun j _ hj e hjl => ?_⟩
          exfalso
          rcases Int.lt_trichotomy i j with g | g | g
          · have := h.ord i j g a1 e.r a2 e.n; omega
          · rw [← g] at hjl; omega
          · omega
        · obtain ⟨n, n1, n2⟩ := xQ h.s i (by unfold inR at a1; omega)
          unfold inR at a1
          obtain ⟨xs, x1, x2, x3, x4⟩ := ih n.1 n.2 (fun e => by have := (n2.1 e).1; omega) (fun e => ⟨(n2.1 e).2.1, (n2.1 e).2.2.1, i, hx, by have := (n2.1 e).1; omega⟩)
          have e1 : Ev (fun k => fF.l k i true h1 p c core odd) ((i, gT p c core odd i) :: xs) := by
            refine Ev.step (fun k => by rw [fF.l, if_pos rfl]) ?_
            refine Ev.bind gev (Ev.yes rfl (Ev.yes y1 (Ev.no ?_ (Ev.bind n1 (Ev.map' x1 _)))))
            rw [y2, t2]; exact hlo
          refine ⟨(i, gT p c core odd i) :: xs, e1, List.pairwise_cons.2 ⟨fun x hxm => ?_, x2⟩, fun x hxm => ?_, fun j _ hj e hjl => ?_⟩
          · obtain ⟨b1, b2, _⟩ := x3 x hxm
            have := (n2.1 b1).1
            show i < x.1; omega
          · rcases List.mem_cons.1 hxm with rfl | hxm
            · exact ⟨rfl, Int.le_refl _, hx, rfl, by show gLo p c core odd i ≤ h1; omega⟩
            · obtain ⟨b1, b2, b3, b4, b5⟩ := x3 x hxm
              have := (n2.1 b1).1
              exact ⟨rfl, by omega, b3, b4, b5⟩
          · rcases Int.lt_or_le i j with g | g
            · have g5 := e.r
              unfold inR at g5
              cases hn : n.2 with
              | false => exact absurd ((n2.2 hn).2 j (by omega) e.r) e.n
              | true =>
                refine List.mem_cons_of_mem _ (x4 j hn ?_ e hjl)
                refine Classical.byContradiction fun hq => ?_
                exact e.n ((n2.1 hn).2.2.2 j (by omega) (by omega))
            · have : j = i := by omega
              subst this; simp
      · rw [h.s.aes a2 hx] at gev
        have e1 : Ev (fun k => fF.l k i true h1 p c core odd) [] := by
          refine Ev.step (fun k => by rw [fF.l, if_pos rfl]) ?_
          exact Ev.bind gev (Ev.no (by simp) (Ev.now _))
        refine ⟨[], e1, List.Pairwise.nil, by simp, fun j _ hj e hjl => ?_⟩
        exfalso
        have hne : i ≠ j := fun q => hx (by rw [q]; exact e)
        have hne2 : j0 ≠ i := fun q => hx (by rw [← q]; exact a3)
        have o1 := h.ord j0 i (by omega) a3.r a1 a3.n a2
        have o2 := h.ord i j (by omega) a1 e.r a2 e.n
        have l1 := h.s.pV a3.n
        have l2 := h.s.pV e.n
        refine hx ⟨a1, a2, ?_, ?_⟩
        · have := a3.lo; omega
        · have := e.hi; omega
structure BtS (p c : Int) (core : List (List Sp)) (odd : List Gn) (h0 h1 : Int) (xs : List (Int × List Sp)) : Prop where
  up : xs.Pairwise (fun x y => x.1 < y.1)
  mem : ∀ x ∈ xs, Ex p c core odd x.1 ∧ x.2 = gT p c core odd x.1 ∧ h0 ≤ gHi p c core odd x.1 ∧ gLo p c core odd x.1 ≤ h1
  all : ∀ j, Ex p c core odd j → h0 ≤ gHi p c core odd j → gLo p c core odd j ≤ h1 → (j, gT p c core odd j) ∈ xs
theorem ai5 (h : FOK p c core odd) (h0 h1 : Int) : ∃ xs, Ev (fun k => fF.f k p c core odd h0 h1) xs ∧ BtS p c core odd h0 h1 xs := by
  obtain ⟨a, a1, a2⟩ := yV h h0
  obtain ⟨xs, x1, x2, x3, x4⟩ := afp h h1 (1099511627777 - a.1).toNat a.1 a.2 (fun _ => Nat.le_refl _) (fun e => by
    obtain ⟨q1, q2, q3⟩ := a2.y e
    exact ⟨q1.r, q1.n, a.1, q1, Int.le_refl _⟩)
  refine ⟨xs, ?_, ⟨x2, fun x hx => ?_, fun j e g1 g2 => ?_⟩⟩
  · unfold fF.f
    exact Ev.bind a1 x1
  · obtain ⟨b1, b2, b3, b4, b5⟩ := x3 x hx
    obtain ⟨q1, q2, q3⟩ := a2.y b1
    refine ⟨b3, b4, ?_, b5⟩
    rcases Int.lt_or_le a.1 x.1 with g | g
    · have := h.ord a.1 x.1 g q1.r b3.r q1.n b3.n
      have := h.s.pV b3.n
      omega
    · have : x.1 = a.1 := by omega
      rw [this]; exact q2
  · cases ha : a.2 with
    | false => exact absurd g1 ((a2.n ha).2 j e)
    | true => exact x4 j ha ((a2.y ha).2.2 j e g1) e g2
def afq (l m : List Sp) : Bool := decide ((yh (fun a b => a && b) l m) ≠ [])
theorem aod (l : List Sp) (hl : l.length ≤ 500000) : ∀ (xs : List (Int × List Sp)) (n : Int) (out : List Int), (∀ x ∈ xs, x.2.length ≤ 500000) → n ≤ 60000 →
    dM.l l xs n out = some (if n + xs.length ≤ 60000 then (out ++ (xs.filter (fun x => afq x.2 l)).map (·.1), 0) else ([], 3))
  | [], n, out, _, hn => by simp [dM.l, hn]
  | x :: r, n, out, hx, hn => by
    have hm : oO.f x.2 l = some (afq x.2 l) := ars _ _ (by have := hx x (by simp); omega)
    rw [dM.l]
    by_cases h : n + 1 > 60000
    · rw [if_pos h, if_neg (by simp only [List.length_cons]; omega)]
    · rw [if_neg h, hm, Option.bind_some, aod l hl r (n + 1) _ (fun y hy => hx y (by simp [hy])) (by omega)]
      have e : (n + 1 + (r.length : Int) ≤ 60000) ↔ (n + ((x :: r).length : Int) ≤ 60000) := by simp only [List.length_cons]; omega
      by_cases g : n + ((x :: r).length : Int) ≤ 60000
      · rw [if_pos g, if_pos (e.2 g)]
        by_cases hb : afq x.2 l = true
        · rw [if_pos hb]; simp [List.filter_cons, hb]
        · rw [if_neg hb]; simp [List.filter_cons, hb]
      · rw [if_neg g, if_neg (fun q => g (e.1 q))]
theorem al3 (h : FOK p c core odd) {l : List Sp} (hs : SL (-1099511627776) 1099511627776 l) (hl : l.length ≤ 500000) (hne : l ≠ []) (hf : ∀ i, (fs c core odd i).length ≤ 500000) :
    ∃ xs, BtS p c core odd (qF l) (qH l) xs ∧ Ev (fun k => dM.f k p c core odd l) (if (xs.length : Int) ≤ 60000 then ((xs.filter (fun x => afq x.2 l)).map (·.1), 0) else ([], 3)) := by
  obtain ⟨xs, x1, x2⟩ := ai5 h (qF l) (qH l)
  refine ⟨xs, x2, ?_⟩
  have hr := ael l (by omega)
  rw [acw.2 hs] at hr
  have hh : eD.f l = some (qF l, qH l, true) := by rw [tN l (by omega), mO, if_neg hne]
  unfold dM.f
  refine Ev.bind hr (Ev.yes rfl (Ev.bind (Ev.val hh) (Ev.yes rfl (Ev.bind x1 ?_))))
  rw [aod l hl xs 0 [] (fun x hx => by rw [(x2.mem x hx).2.1]; unfold gT; rw [List.length_map]; exact hf _) (by omega)]
  simp only [Int.zero_add, List.nil_append]
  exact Ev.now _
theorem anB {a b : List Sp} (ha : SL (-1099511627776) 1099511627776 a) (hb : SL (-1099511627776) 1099511627776 b) : afq a b = true ↔ ∃ x, qE a x = true ∧ qE b x = true := by
  obtain ⟨k1, k2⟩ := arq (fun a b => a && b) rfl ha hb
  unfold afq
  rw [decide_eq_true_iff]
  constructor
  · intro hn
    cases hk : yh (fun a b => a && b) a b with
    | nil => exact absurd hk hn
    | cons s r =>
      rw [hk] at k1
      have := SL.ticks k1 (s := s) (by simp)
      have e := k2 s.f0
      rw [hk, lC] at e
      have : (decide (s.f0 ≤ s.f0) && decide (s.f0 ≤ s.f1) || qE r s.f0) = true := by simp; omega
      rw [this] at e
      have := Bool.and_eq_true_iff.1 e.symm
      exact ⟨s.f0, this.1, this.2⟩
  · rintro ⟨x, h1, h2⟩ he
    have e := k2 x
    rw [he, aai, h1, h2] at e
    cases e
end Go.Proofs.Ytmbmalkpmanaaaa.P
namespace Go.Proofs.Ytmbmalkpmanaaaa.P
set_option linter.unusedVariables false
set_option linter.unusedSimpArgs false
open Go.RowKit Go.Proofs.YtmbmalkpmanaaaaW.aK Go.Proofs.YtmbmalkpmanaaaaW.bM
variable {p c : Int} {core : List (List Sp)} {odd : List Gn}
theorem Ev.uni {α : Type} {g : Nat → Option α} {a b : α} (h : Ev g a) (k : Ev g b) : a = b := by
  obtain ⟨K, hK⟩ := h
  obtain ⟨L, hL⟩ := k
  exact Option.some.inj ((hK (max K L) (by omega)).symm.trans (hL (max K L) (by omega)))
theorem aHd (hc : ∀ l ∈ core, l.length ≤ 4398046511104) (ho : ∀ g ∈ odd, g.f1.length ≤ 4398046511104) (hl : core.length ≤ 6000) (hlo : odd.length ≤ 6000) :
    ∃ n, Ev (fun k => iq.f k p c core odd) n ∧ (∀ l ∈ core, (l.length : Int) ≤ n) ∧ (∀ g ∈ odd, (g.f1.length : Int) ≤ n) := by
  have k1 : ∀ (d n : Nat) (x : Int), odd.length - n = d → n ≤ odd.length → 0 ≤ x → x ≤ 4398046511104 * (6000 + (n : Int)) →
      ∃ r, Ev (fun k => iq.l1 k x odd (odd.length : Int) (n : Int)) r ∧ x ≤ r ∧ ∀ (j : Nat) (hj : j < odd.length), n ≤ j → ((odd[j].f1).length : Int) ≤ r := by
    intro d
    induction d with
    | zero =>
      intro n x hd hn h0 h1
      exact ⟨x, Ev.step (f := fun _ => some x) (fun k => by rw [iq.l1, if_neg (by omega)]) (Ev.now _), Int.le_refl _, fun j hj hnj => by omega⟩
    | succ d ih =>
      intro n x hd hn h0 h1
      have hlt : n < odd.length := by omega
      have hb := ho _ (List.getElem_mem hlt)
      have hx : wrap64 (x + ((odd[n].f1).length : Int)) = x + ((odd[n].f1).length : Int) := eH (by omega) (by omega)
      obtain ⟨r, r1, r2, r3⟩ := ih (n + 1) (x + ((odd[n].f1).length : Int)) (by omega) (by omega) (by omega) (by omega)
      have hw : wrap64 ((n : Int) + 1) = ((n + 1 : Nat) : Int) := by rw [eH (by omega) (by omega)]; simp
      refine ⟨r, Ev.step (fun k => by rw [iq.l1, if_pos (by omega), if_pos (by omega), if_pos (by omega), rdG odd n hlt, hw, hx]) r1, by omega, fun j hj hnj => ?_⟩
      rcases Nat.lt_or_ge n j with g | g
      · exact r3 j hj g
      · have : j = n := by omega
        subst this; omega
  have k0 : ∀ (d n : Nat) (x : Int), core.length - n = d → n ≤ core.length → 0 ≤ x → x ≤ 4398046511104 * (n : Int) →
      ∃ r, Ev (fun k => iq.l0 k x core (core.length : Int) (n : Int) p c core odd) r ∧ x ≤ r ∧ (∀ (j : Nat) (hj : j < core.length), n ≤ j → ((core[j]).length : Int) ≤ r) ∧ ∀ (j : Nat) (hj : j < odd.length), ((odd[j].f1).length : Int) ≤ r := by
    intro d
    induction d with
    | zero =>
      intro n x hd hn h0 h1
      obtain ⟨r, r1, r2, r3⟩ := k1 _ 0 x rfl (by omega) h0 (by omega)
      exact ⟨r, Ev.step (fun k => by rw [iq.l0, if_neg (by omega)]; rfl) r1, r2, fun j hj hnj => by omega, fun j hj => r3 j hj (by omega)⟩
    | succ d ih =>
      intro n x hd hn h0 h1
      have hlt : n < core.length := by omega
      have hb := hc _ (List.getElem_mem hlt)
      have hx : wrap64 (x + ((core[n]).length : Int)) = x + ((core[n]).length : Int) := eH (by omega) (by omega)
      obtain ⟨r, r1, r2, r3, r4⟩ := ih (n + 1) (x + ((core[n]).length : Int)) (by omega) (by omega) (by omega) (by omega)
      have hw : wrap64 ((n : Int) + 1) = ((n + 1 : Nat) : Int) := by rw [eH (by omega) (by omega)]; simp
      refine ⟨r, Ev.step (fun k => by rw [iq.l0, if_pos (by omega), if_pos (by omega), if_pos (by omega), rdL core n hlt, hw, hx]) r1, by omega, fun j hj hnj => ?_, r4⟩
      rcases Nat.lt_or_ge n j with g | g
      · exact r3 j hj g
      · have : j = n := by omega
        subst this; omega
  obtain ⟨r, r1, _, r3, r4⟩ := k0 _ 0 0 rfl (by omega) (by omega) (by omega)
  refine ⟨r, r1, fun l hm => ?_, fun g hm => ?_⟩
  · obtain ⟨j, hj, rfl⟩ := List.getElem_of_mem hm
    exact r3 j hj (by omega)
  · obtain ⟨j, hj, rfl⟩ := List.getElem_of_mem hm
    exact r4 j hj
theorem aF4 (m : MF core odd) : ∃ b, Ev (fun k => fP.f k p c core odd) b ∧ (b = true → FOK p c core odd ∧ ∀ i, (fs c core odd i).length ≤ 60) := by
  obtain ⟨b, b1, b2⟩ := acC (p := p) (c := c) m
  refine ⟨b, b1, fun hb => ?_⟩
  obtain ⟨h, hl, hlo⟩ := b2 hb
  refine ⟨h, ?_⟩
  obtain ⟨n, n1, n2, n3⟩ := aHd (p := p) (c := c) (core := core) (odd := odd) (fun l hm => by have := SL.len (lo := 0) (h.s.hcore l hm); omega) (fun g hm => by have := SL.len (lo := 0) (h.s.hodd g hm); omega) h.s.hl h.s.hlo
  have hn : n ≤ 60 := by
    refine Classical.byContradiction fun hn => ?_
    have hs : Ev (fun k => jf.f k p c core odd) false := by
      unfold jf.f
      refine Ev.yes (by omega) (Ev.yes (by omega) (Ev.bind n1 ?_))
      rw [decide_eq_false hn]; exact Ev.now _
    have hr : Ev (fun k => fP.f k p c core odd) false := by
      unfold fP.f
      exact Ev.bind hs (Ev.no (by simp) (Ev.now _))
    rw [hb] at b1
    have := Ev.uni b1 hr
    cases this
  intro i
  unfold fs
  cases ho : lW odd i with
  | some l =>
    obtain ⟨g, hg, _, rfl⟩ := vk ho
    have := n3 g hg
    show g.f1.length ≤ 60
    omega
  | none =>
    show (gG c core i).length ≤ 60
    by_cases hc : c = 0
    · unfold gG; rw [if_pos hc]; simp
    · have := n2 _ (h.s.yc i hc); omega
theorem aG2 (t : Int) : ∀ (L : List Int) (b : Int), L.Pairwise (· < ·) → (∀ x ∈ L, b < x ∧ x ≤ t) → (L.length : Int) ≤ max 0 (t - b)
  | [], b, _, _ => by simp only [List.length_nil]; omega
  | y :: r, b, h, hb => by
    obtain ⟨h1, h2⟩ := List.pairwise_cons.1 h
    have e1 := aG2 t r y h2 (fun x hx => ⟨h1 x hx, (hb x (by simp [hx])).2⟩)
    have e2 := hb y (by simp)
    simp only [List.length_cons]; omega
theorem aI4 (h : FOK p c core odd) {h0 h1 : Int} : ∀ {xs : List (Int × List Sp)}, BtS p c core odd h0 h1 xs → (xs.length : Int) ≤ max 0 (h1 - h0) + 1
  | [], _ => by simp only [List.length_nil]; omega
  | x :: r, s => by
    obtain ⟨u1, u2⟩ := List.pairwise_cons.1 s.up
    have ex := s.mem x (by simp)
    have em : ∀ y ∈ r, Ex p c core odd y.1 ∧ gLo p c core odd y.1 ≤ h1 := fun y hy => ⟨(s.mem y (by simp [hy])).1, (s.mem y (by simp [hy])).2.2.2⟩
    have pw : (r.map (fun y => gLo p c core odd y.1)).Pairwise (· < ·) := by
      rw [List.pairwise_map]
      refine List.Pairwise.imp_of_mem (fun {a b} ha hb hab => ?_) u2
      have ea := (em a ha).1
      have eb := (em b hb).1
      have := h.ord a.1 b.1 hab ea.r eb.r ea.n eb.n
      have := h.s.pV ea.n
      omega
    have e := aG2 h1 (r.map (fun y => gLo p c core odd y.1)) h0 pw (fun v hv => by
      obtain ⟨y, hy, rfl⟩ := List.mem_map.1 hv
      have ey := em y hy
      have := h.ord x.1 y.1 (u1 y hy) ex.1.r ey.1.r ex.1.n ey.1.n
      have := ex.2.2.1
      exact ⟨by omega, ey.2⟩)
    simp only [List.length_map] at e
    simp only [List.length_cons]; omega
theorem aHe (a : List Sp) (ha : SL (-1099511627776) 1099511627776 a) : ¬ afq a [] = true := by
  rw [anB (b := []) ha trivial]
  rintro ⟨x, _, hx⟩
  simp [qE] at hx
theorem aFE (h : FOK p c core odd) (hf : ∀ i, (fs c core odd i).length ≤ 60) {l : List Sp} (hs : SL (-1099511627776) 1099511627776 l) (hl : l.length ≤ 1000) (hb : l ≠ [] → qH l - qF l ≤ 50000) :
    ∃ z, Ev (fun k => dM.f k p c core odd l) (z, 0) ∧ z.Pairwise (· < ·) ∧ (∀ i, i ∈ z ↔ Ex p c core odd i ∧ afq (gT p c core odd i) l = true) ∧ z.length ≤ 60000 := by
  by_cases hn : l = []
  · subst hn
    have hr := ael [] (by simp)
    have hh : eD.f [] = some (0, 0, false) := by rw [tN [] (by simp)]; rfl
    refine ⟨[], ?_, List.Pairwise.nil, fun i => ⟨fun e => by simp at e, fun e => absurd e.2 (aHe _ (h.s.alx e.1))⟩, by simp⟩
    unfold dM.f
    exact Ev.bind hr (Ev.yes rfl (Ev.bind (Ev.val hh) (Ev.no (by simp) (Ev.now _))))
  · obtain ⟨xs, x1, x2⟩ := al3 h hs (by omega) hn (fun i => by have := hf i; omega)
    have hlen := aI4 h x1
    have := hb hn
    rw [if_pos (by omega)] at x2
    refine ⟨_, x2, ?_, fun i => ?_, ?_⟩
    · rw [List.pairwise_map]; exact x1.up.filter _
    · simp only [List.mem_map, List.mem_filter]
      constructor
      · rintro ⟨x, ⟨hx, hm⟩, rfl⟩
        obtain ⟨e1, e2, _, _⟩ := x1.mem x hx
        rw [e2] at hm
        exact ⟨e1, hm⟩
      · rintro ⟨e, hm⟩
        obtain ⟨t, t1, t2⟩ := (anB (h.s.alx e) hs).1 hm
        have b1 := aam h.s e t1
        have b2 := SL.ahl hs t2
        exact ⟨_, ⟨x1.all i e (by omega) (by omega), hm⟩, rfl⟩
    · have := List.length_filter_le (fun x : Int × List Sp => afq x.2 l) xs
      rw [List.length_map]; omega
theorem aHf : Ev (fun k => dM.f k p c core odd [⟨2, 1⟩]) ([], 50) := by
  have hr := ael [⟨2, 1⟩] (by simp)
  have e : slB (-1099511627776) [⟨2, 1⟩] = false := by simp [slB]
  rw [e] at hr
  unfold dM.f
  exact Ev.bind hr (Ev.no (by simp) (Ev.now _))
theorem aFf : ∀ (l z : List Int), z.Nodup → (∀ x, x ∈ z ↔ x ∈ l) → aGM l = z.length
  | [], z, _, h => by
    have : z = [] := List.eq_nil_iff_forall_not_mem.2 (fun x hx => by have := (h x).1 hx; simp at this)
    subst this; rfl
  | y :: r, z, hz, h => by
    show aGM r + (if y ∈ r then 0 else 1) = z.length
    by_cases hy : y ∈ r
    · rw [if_pos hy, aFf r z hz (fun x => by
        rw [h x, List.mem_cons]
        constructor
        · rintro (e | e)
          · rw [e]; exact hy
          · exact e
        · exact .inr)]
      rfl
    · have hm : y ∈ z := (h y).2 (by simp)
      have e := aFf r (z.erase y) (hz.erase y) (fun x => by
        rw [hz.mem_erase_iff, h x, List.mem_cons]
        constructor
        · rintro ⟨e1, e2⟩
          rcases e2 with e2 | e2
          · exact absurd e2 e1
          · exact e2
        · intro e2
          exact ⟨fun e3 => hy (e3 ▸ e2), .inr e2⟩)
      rw [if_neg hy, e, List.length_erase_of_mem hm]
      have := List.length_pos_of_mem hm
      omega
theorem aHg {l z : List Int} (hz : z.Pairwise (· < ·)) (h : ∀ x, x ∈ z ↔ x ∈ l) : aFk l = z.length := by
  unfold aFk
  rw [aFf l.reverse z (hz.imp (fun {a b} hab => by omega)) (fun x => by rw [h x, List.mem_reverse])]
end Go.Proofs.Ytmbmalkpmanaaaa.P
namespace Go.Proofs.Ytmbmalkpmanaaaa.Pure
set_option linter.unusedVariables false
set_option linter.unusedSimpArgs false
open Go.Proofs.Ytmbmalkpmanaaaa.P Go.RowKit Go.Proofs.YtmbmalkpmanaaaaW.aK Go.Proofs.YtmbmalkpmanaaaaW.bM
section
variable {p c : Int} {core : List (List Sp)} {odd : List Gn}
theorem rdZ (z : List Int) (n : Nat) (h : n < z.length) : rd z (n : Int) = z[n] := by simp [rd, h]
theorem aFF {i : Int} (h : inR i) : yK i = true := by
  unfold inR at h
  simp only [yK, Bool.and_eq_true, decide_eq_true_eq]; omega
theorem step1 (n : Nat) (h : n ≤ 1000000) : wrap64 ((n : Int) + 1) = ((n + 1 : Nat) : Int) := by rw [eH (by omega) (by omega)]; simp
theorem aGw {B z y : List Int} {b : List Sp} (hy : y.length ≤ 200000) (hfit : ∀ x ∈ y, yK x = true) (hE : Ev (fun k => jA.l1 k b z z (z.length : Int) 0 p c core odd y 0) true) :
    Ev (fun k => jA.l0 k b z y (y.length : Int) 0 p c core odd [] 0) true := by
  have key : ∀ (d n : Nat), y.length - n = d → n ≤ y.length → Ev (fun k => jA.l0 k b z y (y.length : Int) (n : Int) p c core odd (y.take n) 0) true := by
    intro d
    induction d with
    | zero =>
      intro n hd hn
      rw [List.take_of_length_le (by omega)]
      refine Ev.step (fun k => by rw [jA.l0, if_neg (by omega)]) ?_
      exact hE
    | succ d ih =>
      intro n hd hn
      have hlt : n < y.length := by omega
      have hw := step1 n (by omega)
      have htk : y.take n ++ [y[n]] = y.take (n + 1) := (List.take_succ_eq_append_getElem hlt).symm
      have hc : (y.take n).length < 1000000000 ∧ yK (rd y (n : Int)) = true := ⟨by simp only [List.length_take]; omega, by rw [rdZ y n hlt]; exact hfit _ (List.getElem_mem hlt)⟩
      refine Ev.step (fun k => by rw [jA.l0, if_pos (by omega), if_pos (by omega), if_pos (by omega), if_pos hc, rdZ y n hlt, hw, htk]) ?_
      exact ih (n + 1) (by omega) (by omega)
  have := key _ 0 rfl (by omega)
  simpa using this
structure Told (p c : Int) (core : List (List Sp)) (odd : List Gn) (b : List Sp) (z : List Int) : Prop where
  up : z.Pairwise (· < ·)
  mem : ∀ i, i ∈ z ↔ Ex p c core odd i ∧ afq (gT p c core odd i) b = true
theorem aG3 {z : List Int} (h : z.Pairwise (· < ·)) {i j : Nat} (hj : j < z.length) (hij : i < j) : z[i]'(by omega) < z[j] := List.pairwise_iff_getElem.1 h i j (by omega) hj hij
theorem aGl {z : List Int} (h : z.Pairwise (· < ·)) {n : Nat} (hn : n + 1 < z.length) {j : Int} (h1 : z[n]'(by omega) < j) (h2 : j < z[n + 1]) : j ∉ z := by
  intro hj
  obtain ⟨m, hm, rfl⟩ := List.getElem_of_mem hj
  rcases Nat.lt_or_ge n m with g | g
  · rcases Nat.lt_or_ge (n + 1) m with g2 | g2
    · have := aG3 h hm g2; omega
    · have : m = n + 1 := by omega
      subst this; omega
  · rcases Nat.lt_or_ge m n with g2 | g2
    · have := aG3 h (j := n) (by omega) g2; omega
    · have : m = n := by omega
      subst this; omega
theorem aHh (h : FOK p c core odd) (hf : ∀ i, (fs c core odd i).length ≤ 60) {b : List Sp} (hb : b.length ≤ 1000) {z y : List Int} (t : Told p c core odd b z) (n : Nat) (hn : n + 1 < z.length) (hz : z.length ≤ 60000)
    (hE : Ev (fun k => jA.l1 k b z z (z.length : Int) ((n + 2 : Nat) : Int) p c core odd y 0) true) :
    ∀ (d : Nat) (j : Int) (ok : Bool), (ok = true → (z[n + 1] - j).toNat ≤ d) → (ok = true → z[n]'(by omega) < j ∧ inR j ∧ fs c core odd j ≠ []) →
      Ev (fun k => jA.l2 k b z z[n + 1] j ok z (z.length : Int) ((n + 1 : Nat) : Int) p c core odd y 0) true := by
  have hw : wrap64 (((n + 1 : Nat) : Int) + 1) = ((n + 2 : Nat) : Int) := step1 (n + 1) (by omega)
  have out : ∀ j, Ev (fun k => jA.j5 k b z z[n + 1] j z (z.length : Int) ((n + 1 : Nat) : Int) false p c core odd y 0) true := by
    intro j
    refine Ev.step (fun k => by rw [jA.j5, if_neg (by simp), hw]) ?_
    exact hE
  intro d
  induction d with
  | zero =>
    intro j ok hd hA
    cases ok with
    | false =>
      refine Ev.step (fun k => by rw [jA.l2, if_neg (by simp)]) ?_
      exact out j
    | true =>
      have := hd rfl
      refine Ev.step (fun k => by rw [jA.l2, if_pos rfl, decide_eq_false (by omega)]) ?_
      exact out j
  | succ d ih =>
    intro j ok hd hA
    cases ok with
    | false =>
      refine Ev.step (fun k => by rw [jA.l2, if_neg (by simp)]) ?_
      exact out j
    | true =>
      obtain ⟨a1, a2, a3⟩ := hA rfl
      have hd := hd rfl
      by_cases hj : j < z[n + 1]
      · have e0 := ((t.mem _).1 (List.getElem_mem (show n < z.length by omega))).1
        have e1 := ((t.mem _).1 (List.getElem_mem hn)).1
        have o1 := h.ord _ _ a1 e0.r a2 e0.n a3
        have o2 := h.ord _ _ hj a2 e1.r a3 e1.n
        have l0 := h.s.pV e0.n
        have l1 := h.s.pV e1.n
        have ex : Ex p c core odd j := ⟨a2, a3, by have := e0.lo; omega, by have := e1.hi; omega⟩
        have g := uF h.s j
        rw [h.s.qP ex] at g
        have hm : ¬ afq (gT p c core odd j) b = true := fun hm => aGl t.up hn a1 hj ((t.mem j).2 ⟨ex, hm⟩)
        have hmf : oO.f (gT p c core odd j) b = some false := by
          have : (gT p c core odd j).length ≤ 60 := by unfold gT; rw [List.length_map]; exact hf j
          rw [ars _ _ (by omega)]
          have := Bool.eq_false_iff.mpr hm
          unfold afq at this
          rw [this]
        unfold inR at a2
        obtain ⟨r, r1, r2⟩ := xQ h.s j (by omega)
        refine Ev.step (fun k => by rw [jA.l2, if_pos rfl, decide_eq_true hj]) ?_
        refine Ev.step (fun k => by rw [jA.j5, if_pos rfl]) ?_
        refine Ev.bind g (Ev.yes rfl (Ev.bind (Ev.val hmf) (Ev.no (by simp) (Ev.bind r1 ?_))))
        exact ih r.1 r.2 (fun e => by have := (r2.1 e).1; omega) (fun e => ⟨by have := (r2.1 e).1; omega, (r2.1 e).2.1, (r2.1 e).2.2.1⟩)
      · refine Ev.step (fun k => by rw [jA.l2, if_pos rfl, decide_eq_false hj]) ?_
        exact out j
theorem aG4 (h : FOK p c core odd) (hf : ∀ i, (fs c core odd i).length ≤ 60) {b : List Sp} (hb : b.length ≤ 1000) {z y : List Int} (t : Told p c core odd b z) (hz : z.length ≤ 60000) (hy : ∀ i, i ∈ z ↔ i ∈ y) :
    ∀ (d n : Nat), z.length - n = d → n ≤ z.length → Ev (fun k => jA.l1 k b z z (z.length : Int) (n : Int) p c core odd y 0) true := by
  intro d
  induction d with
  | zero =>
    intro n hd hn
    have hc : (z.length : Int) = aFk y := (aHg t.up hy).symm
    refine Ev.step (fun k => by rw [jA.l1, if_neg (by omega)]) ?_
    exact Ev.bind aHf (Ev.yes hc (Ev.yes rfl (Ev.bind pW (Ev.now _))))
  | succ d ih =>
    intro n hd hn
    have hlt : n < z.length := by omega
    have hm := List.getElem_mem hlt
    obtain ⟨ex, hmt⟩ := (t.mem _).1 hm
    have g := uF h.s z[n]
    rw [h.s.qP ex] at g
    have hcn : ¬ yD y z[n] = 0 := by rw [ajI]; exact fun q => q ((hy _).1 hm)
    have hmf : oO.f (gT p c core odd z[n]) b = some true := by
      have : (gT p c core odd z[n]).length ≤ 60 := by unfold gT; rw [List.length_map]; exact hf _
      rw [ars _ _ (by omega)]
      unfold afq at hmt
      rw [hmt]
    have nxt := ih (n + 1) (by omega) (by omega)
    have j3 : Ev (fun k => jA.j3 k b z (n : Int) z[n] z (z.length : Int) (n : Int) false p c core odd y 0) true := by
      refine Ev.step (fun k => by rw [jA.j3, if_neg (by simp)]) ?_
      cases n with
      | zero =>
        refine Ev.yes rfl ?_
        rw [step1 0 (by omega)]
        exact nxt
      | succ m =>
        have hw : wrap64 (((m + 1 : Nat) : Int) - 1) = (m : Int) := by rw [eH (by omega) (by omega)]; omega
        have e0 := ((t.mem _).1 (List.getElem_mem (show m < z.length by omega))).1
        have er := e0.r
        unfold inR at er
        obtain ⟨r, r1, r2⟩ := xQ h.s (z[m]'(by omega)) (by omega)
        refine Ev.no (by omega) ?_
        rw [hw, rdZ z m (by omega)]
        refine Ev.yes (by omega) (Ev.yes (by omega) (Ev.bind r1 ?_))
        exact aHh h hf hb t m hlt hz nxt _ r.1 r.2 (fun _ => Nat.le_refl _) (fun e => ⟨by have := (r2.1 e).1; omega, (r2.1 e).2.1, (r2.1 e).2.2.1⟩)
    refine Ev.step (fun k => by rw [jA.l1, if_pos (by omega), if_pos (by omega), if_pos (by omega), rdZ z n hlt]) ?_
    refine Ev.bind g (Ev.yes (aFF ex.r) (Ev.no hcn (Ev.yes rfl (Ev.bind (Ev.val hmf) (Ev.yes rfl ?_)))))
    cases n with
    | zero =>
      exact Ev.no (by omega) j3
    | succ m =>
      have hw : wrap64 (((m + 1 : Nat) : Int) - 1) = (m : Int) := by rw [eH (by omega) (by omega)]; omega
      have hup := aG3 t.up hlt (show m < m + 1 by omega)
      refine Ev.yes (by omega) ?_
      rw [hw, rdZ z m (by omega)]
      refine Ev.yes (by omega) (Ev.yes (by omega) ?_)
      rw [decide_eq_false (by omega)]
      exact j3
theorem aFG (A B b : List Sp) : Ev (fun k => jA.j0 k A B b true p c core odd) true := by
  refine Ev.step (fun k => by rw [jA.j0, if_pos rfl]) ?_
  exact Ev.bind pW (Ev.now _)
theorem aGm {A b : List Sp} (hA : SL (-1099511627776) 1099511627776 A) (hb : SL (-1099511627776) 1099511627776 b) (h : ∀ x, qE A x = true → qE b x = true) (hn : b ≠ [] → -400 ≤ qF b ∧ qH b ≤ 400) : A ≠ [] → qH A - qF A ≤ 50000 := by
  intro hne
  obtain ⟨s, r, rfl⟩ := List.exists_cons_of_ne_nil hne
  have ai0 := SL.ends hA hne
  have h1 : qE (s :: r) (qF (s :: r)) = true := by
    rw [lC]
    have := SL.ticks hA (s := s) (by simp)
    have e : qF (s :: r) = s.f0 := rfl
    rw [e]; simp; omega
  obtain ⟨q, hq, hql⟩ := aer (s :: r) hne
  have hqm := List.mem_of_getLast? hq
  have h2 : qE (s :: r) (qH (s :: r)) = true := by
    rw [aaj]
    have := SL.ticks hA hqm
    exact ⟨q, hqm, by omega, by omega⟩
  have g1 := h _ h1
  have g2 := h _ h2
  have hbn : b ≠ [] := by rintro rfl; simp [qE] at g1
  have := hn hbn
  have := SL.ahl hb g1
  have := SL.ahl hb g2
  omega
theorem aGs (h : FOK p c core odd) (hf : ∀ i, (fs c core odd i).length ≤ 60) {A B : List Sp} (hA : SL (-1099511627776) 1099511627776 A) (hB : SL (-1099511627776) 1099511627776 B) (lA : A.length ≤ 8) (lB : B.length ≤ 8)
    (hn : yh (fun a b => a || b) A B ≠ [] → -400 ≤ qF (yh (fun a b => a || b) A B) ∧ qH (yh (fun a b => a || b) A B) ≤ 400) :
    Ev (fun k => jA.j0 k A B (yh (fun a b => a || b) A B) false p c core odd) true := by
  obtain ⟨kS, kH⟩ := arq (fun a b => a || b) rfl hA hB
  have kl := aGr (fun a b => a || b) A B
  obtain ⟨zA, a1, a2, a3, a4⟩ := aFE h hf hA (by omega) (aGm hA kS (fun x hx => by rw [kH, hx]; rfl) hn)
  obtain ⟨zB, b1, b2, b3, b4⟩ := aFE h hf hB (by omega) (aGm hB kS (fun x hx => by rw [kH, hx, Bool.or_true]) hn)
  obtain ⟨z, z1, z2, z3, z4⟩ := aFE h hf kS (by omega) (aGm kS kS (fun x hx => hx) hn)
  have hy : ∀ i, i ∈ z ↔ i ∈ zA ++ zB := by
    intro i
    rw [z3, List.mem_append, a3, b3]
    constructor
    · rintro ⟨e, hm⟩
      obtain ⟨x, x1, x2⟩ := (anB (h.s.alx e) kS).1 hm
      rw [kH, Bool.or_eq_true] at x2
      rcases x2 with x2 | x2
      · exact .inl ⟨e, (anB (h.s.alx e) hA).2 ⟨x, x1, x2⟩⟩
      · exact .inr ⟨e, (anB (h.s.alx e) hB).2 ⟨x, x1, x2⟩⟩
    · rintro (⟨e, hm⟩ | ⟨e, hm⟩)
      · obtain ⟨x, x1, x2⟩ := (anB (h.s.alx e) hA).1 hm
        exact ⟨e, (anB (h.s.alx e) kS).2 ⟨x, x1, by rw [kH, x2]; rfl⟩⟩
      · obtain ⟨x, x1, x2⟩ := (anB (h.s.alx e) hB).1 hm
        exact ⟨e, (anB (h.s.alx e) kS).2 ⟨x, x1, by rw [kH, x2, Bool.or_true]⟩⟩
  have main := aG4 h hf (b := yh (fun a b => a || b) A B) (by omega) (y := zA ++ zB) ⟨z2, z3⟩ z4 hy _ 0 rfl (by omega)
  have cnt := aGw (B := []) (z := z) (y := zA ++ zB) (b := yh (fun a b => a || b) A B) (p := p) (c := c) (core := core) (odd := odd) (by simp only [List.length_append]; omega) (fun x hx => by
    rcases List.mem_append.1 hx with g | g
    · exact aFF ((a3 x).1 g).1.r
    · exact aFF ((b3 x).1 g).1.r) main
  refine Ev.step (fun k => by rw [jA.j0, if_neg (by simp)]) ?_
  refine Ev.bind a1 (Ev.bind b1 (Ev.bind z1 (Ev.yes rfl (Ev.yes rfl (Ev.yes rfl ?_)))))
  refine Ev.yes (by simp only [List.length_nil]; omega) ?_
  refine Ev.bind (a := zA) (Ev.val (by simp)) ?_
  refine Ev.yes (by show zA.length + zB.length < 17592186044416; omega) ?_
  exact Ev.bind (a := zA ++ zB) (Ev.val rfl) cnt
end
theorem FindOver (p c : Int) (core : List (List Sp)) (odd : List Gn) (ff : ai3 p c core odd) (l1 : List Sp) (_ : ∀ s ∈ l1, acv s) (m1 : l1.length ≤ 9223372036854775807) (l2 : List Sp) (_ : ∀ s ∈ l2, acv s) (m2 : l2.length ≤ 9223372036854775807) :
    ∃ k, jA.f k p c core odd l1 l2 = some true := by
  refine Ev.rounds ?_
  unfold jA.f
  have t1 : (l1.take ((mn (l1.length : Int) 8) : Int).toNat).length ≤ 8 := by rw [arx, List.length_take]; omega
  have t2 : (l2.take ((mn (l2.length : Int) 8) : Int).toNat).length ≤ 8 := by rw [arx, List.length_take]; omega
  refine Ev.yes (by rw [arx]; omega) (Ev.yes (by rw [arx]; omega) ?_)
  generalize l1.take ((mn (l1.length : Int) 8) : Int).toNat = L1 at t1 ⊢
  refine Ev.bind (aG1 L1 (by omega)) ?_
  refine Ev.yes (by rw [arx]; omega) (Ev.yes (by rw [arx]; omega) ?_)
  generalize l2.take ((mn (l2.length : Int) 8) : Int).toNat = L2 at t2 ⊢
  refine Ev.bind (aG1 L2 (by omega)) ?_
  have s1 := (aFN L1).1
  have s2 := (aFN L2).1
  have n1 := aF3 L1
  have n2 := aF3 L2
  obtain ⟨A, eA⟩ : ∃ A, (aE2 L1).1 = A := ⟨_, rfl⟩
  obtain ⟨B, eB⟩ : ∃ B, (aE2 L2).1 = B := ⟨_, rfl⟩
  rw [eA] at s1 n1 ⊢
  rw [eB] at s2 n2 ⊢
  have kl := aGr (fun a b => a || b) A B
  refine Ev.bind (Ev.val (aIg A B (by omega))) ?_
  refine Ev.bind (Ev.val (tN _ (by omega))) ?_
  obtain ⟨b, b1, b2⟩ := aF4 (p := p) (c := c) ff.mf
  refine Ev.bind b1 ?_
  cases b with
  | false => exact Ev.no (by simp) (aFG _ _ _)
  | true =>
    obtain ⟨h, hf⟩ := b2 rfl
    refine Ev.yes rfl ?_
    by_cases g1 : (aE2 L1).2 = 0
    · refine Ev.yes g1 ?_
      by_cases g2 : (aE2 L2).2 = 0
      · refine Ev.yes g2 ?_
        rw [mO]
        by_cases hk : yh (fun a b => a || b) A B = []
        · rw [if_pos hk]
          exact Ev.no (by simp) (aGs h hf s1 s2 (by omega) (by omega) (fun q => absurd hk q))
        · rw [if_neg hk]
          refine Ev.yes rfl ?_
          by_cases e1 : qF (yh (fun a b => a || b) A B) < -400
          · exact Ev.yes e1 (aFG _ _ _)
          · refine Ev.no e1 ?_
            by_cases e2 : qH (yh (fun a b => a || b) A B) > 400
            · show Ev (fun k => jA.j0 k A B _ (decide (qH (yh (fun a b => a || b) A B) > 400)) p c core odd) true
              rw [decide_eq_true e2]; exact aFG _ _ _
            · show Ev (fun k => jA.j0 k A B _ (decide (qH (yh (fun a b => a || b) A B) > 400)) p c core odd) true
              rw [decide_eq_false e2]
              exact aGs h hf s1 s2 (by omega) (by omega) (fun _ => ⟨by omega, by omega⟩)
      · exact Ev.no g2 (aFG _ _ _)
    · exact Ev.no g1 (aFG _ _ _)
end Go.Proofs.Ytmbmalkpmanaaaa.Pure
namespace Go.Proofs.Ytmbmalkpmanaaaa.findOver
open Go.ChangeShapes Go.WideShapes Go.ChangeAt Go.RowKit
open Go.ChangeMaps (open_string shut_string)
set_option linter.unusedVariables false
theorem own : ownKnob Try.prog.godebug = none := by kernel_rfl
theorem laidOut : laidOutB Try.prog = true := by kernel_rfl
set_option maxRecDepth 100000 in
theorem lifted (os : Os) (started : os.Started) (H : Type) (enc : TypeId × Value → H) :
    ReturnsInHanded {} Try.checked os 13 .any (Rows.findOverSpec.pre6 enc Try.prog Try.f13 Rows.findOverRow.domain false) (Rows.findOverSpec.post enc Try.prog Try.f13 false true false false) := by
  refine returnsInHanded_of_change_sized (C := Try.checked) own started (by kernel_rfl) Try.func13
    (ChangeSpec.witness6 (enc := enc) (C := Try.checked) false ⟨#[], #[.agg #[.int .i64 0, .int .i64 0, .slice none 0 0, .slice none 0 0], .slice none 0 0, .slice none 0 0], []⟩ 8 (by kernel_rfl) (by kernel_rfl) (by kernel_rfl) (by kernel_rfl)) ?_
  intro W base args ds gs before hval0 hW hcnd hsz0 _
  have hval : ∀ (j : Nat) t v, Try.f13.params[j]? = some t → args[j]? = some v → Value.okWide Try.prog W .any base t v := hval0
  have hW' := hW
  obtain ⟨p, q, hA0, hV, rfl, hfz, hnd⟩ := hW
  have hA : DataW.TrodAll enc Try.prog W 0 (fun _ => true) true Try.f13.params.toList args.toList ds p := hA0
  rw [Try.params13] at hA hval
  obtain ⟨v0, vs0, d0, ds0, p0, q0, hargs, rfl, rfl, h0, r0⟩ := trodAll_cons hA
  obtain ⟨v1, vs1, d1, ds1, p1, q1, rfl, rfl, rfl, h1, r1⟩ := trodAll_cons r0
  obtain ⟨v2, vs2, d2, ds2, p2, q2, rfl, rfl, rfl, h2, r2⟩ := trodAll_cons r1
  obtain ⟨rfl, rfl, rfl⟩ := trodAll_nil r2
  obtain rfl : args = #[v0, v1, v2] := by cases args; simp_all
  obtain ⟨rfl, rfl⟩ := trodVars_none hV
  have k0 := h0
  have lt0 : ∀ x ∈ p0, x.block < W.heap.size := by obtain ⟨m, hm⟩ := k0; exact DataW.trod_lt m _ _ _ hm
  obtain ⟨fp0, fc0, fA0, fB0, fz0, fC0, fD0, fo0, rfl, fw0, fx0, fy0, fu0, ff0⟩ := P.acI (hval 0 28 v0 rfl rfl) h0
  obtain ⟨a1, len1, aNx, rfl⟩ := okWide_slice Try.underlying24 (hval 1 24 v1 rfl rfl)
  have k1 := h1
  have lt1 : ∀ x ∈ p1, x.block < W.heap.size := by obtain ⟨m, hm⟩ := k1; exact DataW.trod_lt m _ _ _ hm
  obtain ⟨z1, rfl, w1, y1, x1, m1⟩ := P.aFM h1
  obtain ⟨a2, len2, cap2, rfl⟩ := okWide_slice Try.underlying24 (hval 2 24 v2 rfl rfl)
  have k2 := h2
  have lt2 : ∀ x ∈ p2, x.block < W.heap.size := by obtain ⟨m, hm⟩ := k2; exact DataW.trod_lt m _ _ _ hm
  obtain ⟨z2, rfl, w2, y2, x2, m2⟩ := P.aFM h2
  clear hA0 hval0 hsz0
  obtain ⟨kk, hP⟩ := Pure.FindOver fp0 fc0 fz0 fo0 ff0 z1 x1 m1 z2 x2 m2
  refine (P.jA.calls kk fp0 fc0 _ _ fz0 _ _ fo0 _ _ z1 _ _ z2 true W fw0 fx0 fy0 fu0 y1 w1 y2 w2 hP).mono fun e W' ⟨he, arQ⟩ => ?_
  have bel := arQ
  subst he
  exact ⟨_, rfl, _, _, _, [], _, [], hW', trodAll_mk1 (shut_bool Try.underlying4 _), (trodAll_cons_mk (Below.trod laidOut (by kernel_rfl) (of_decide_eq_true (by kernel_rfl)) k0 bel lt0) (trodAll_cons_mk (Below.trod laidOut (by kernel_rfl) (of_decide_eq_true (by kernel_rfl)) k1 bel lt1) (trodAll_cons_mk (Below.trod laidOut (by kernel_rfl) (of_decide_eq_true (by kernel_rfl)) k2 bel lt2) trodAll_mk0))), rfl, bel.frame _, fun h => by cases h⟩
theorem over : Rows.findOverRow.holds Try.pinned (OpenSpec.ofChange Rows.findOverSpec) :=
  OpenClaim.holds_of_wide 13 Try.f13 rfl rfl rfl rfl rfl rfl rfl ⟨rfl, rfl, rfl, rfl, rfl⟩ rfl rfl rfl rfl rfl (by kernel_rfl) Try.func13 (by kernel_rfl)
    (of_decide_eq_true (by kernel_rfl)) (by unfold Func.isWrapper; first | (rw [if_pos (by decide +kernel)]; kernel_rfl) | (rw [if_neg (by decide +kernel)]; exact ⟨rfl, rfl⟩))
    (fun os started H enc _ => lifted os started H enc)
theorem proved : Rows.FindOverSaid := over
#print axioms proved
end Go.Proofs.Ytmbmalkpmanaaaa.findOver
namespace Go.Proofs.Ytmbmalkpmanaaaa
theorem findOver_holds : Rows.FindOverSaid := findOver.proved
end Go.Proofs.Ytmbmalkpmanaaaa

/- Lemmas for the law SpansTells: what the functions that it reaches compute. No condition of its own. -/
import Derived.Test.YtmbmalkpmanaaaaYSpansTells7
import Derived.Test.YtmbmalkpmanaaaaYSpansTells8
namespace Go.Proofs.Ytmbmalkpmanaaaa.Pure
set_option linter.unusedVariables false
set_option linter.unusedSimpArgs false
open Go.Proofs.Ytmbmalkpmanaaaa.P Go.RowKit Go.Proofs.YtmbmalkpmanaaaaW.PrintWords

theorem alike_self (l : List Sp) (hl : l.length ≤ 4611686018427387904) : Ev (fun k => epactlow_Alike.f k l l) true := by
  have := alike_ev l l (by omega)
  rwa [alikeB_iff.2 rfl] at this

theorem SpansTells (l0 : List Sp) (_ : ∀ s ∈ l0, spFits s) (_ : l0.length ≤ 9223372036854775807) (l1 : List Sp) (_ : ∀ s ∈ l1, spFits s) (_ : l1.length ≤ 9223372036854775807) (a2 : Int) (_ : fits a2) (a3 : Int) (hf : fits a3) : ∃ k, epactlaw02_SpansTells.f k l0 l1 a2 a3 = some true := by
  refine Ev.rounds ?_
  have hn : -9223372036854775808 ≤ a3 ∧ a3 ≤ 9223372036854775807 := by
    have := Bool.and_eq_true_iff.1 hf
    exact ⟨of_decide_eq_true this.1, of_decide_eq_true this.2⟩
  unfold epactlaw02_SpansTells.f
  refine Ev.bind (set_ev l0) (Ev.bind (set_ev l1) ?_)
  have ha := setS_SL l0
  have hb := setS_SL l1
  have la := setS_len l0
  have lb := setS_len l1
  generalize setS l0 = a at *
  generalize setS l1 = b at *
  have ba : ∀ s ∈ a, -1099511627776 ≤ s.f0 ∧ s.f0 ≤ s.f1 ∧ s.f1 ≤ 1099511627776 := fun s hs => SL.ticks ha hs
  have bb : ∀ s ∈ b, -1099511627776 ≤ s.f0 ∧ s.f0 ≤ s.f1 ∧ s.f1 ≤ 1099511627776 := fun s hs => SL.ticks hb hs
  have an : ∀ l : List Sp, l.length ≤ 30 → epactlow_Anew.f l = some l := fun l h => by unfold epactlow_Anew.f; rw [if_pos (by unfold many; omega)]
  refine Ev.bind (Ev.val (an a la)) (Ev.bind (Ev.val (an b lb)) ?_)
  have u := kept_SL (fun a b => a || b) rfl ha hb
  have t := kept_SL (fun a b => a && b) rfl ha hb
  have d := kept_SL (fun a b => a && !b) rfl ha hb
  obtain ⟨r2, e2, s2, m2⟩ := refset_ev 2 (-1099511627776) 1099511627776 (by omega) (by omega) a b ba bb (by omega)
  obtain ⟨r3, e3, s3, m3⟩ := refset_ev 3 (-1099511627776) 1099511627776 (by omega) (by omega) a b ba bb (by omega)
  obtain ⟨r1, e1, s1, m1⟩ := refset_ev 1 (-1099511627776) 1099511627776 (by omega) (by omega) a b ba bb (by omega)
  have q1 : r1 = keptL (fun a b => a || b) a b := SL.uniq s1 u.1 (fun x => by rw [m1, u.2]; simp [kindOf])
  have q2 : r2 = keptL (fun a b => a && b) a b := SL.uniq s2 t.1 (fun x => by rw [m2, t.2]; simp [kindOf])
  have q3 : r3 = keptL (fun a b => a && !b) a b := SL.uniq s3 d.1 (fun x => by rw [m3, d.2]; simp [kindOf])
  subst q1 q2 q3
  have n1 := kept_len (fun a b => a || b) a b
  have n2 := kept_len (fun a b => a && b) a b
  have n3 := kept_len (fun a b => a && !b) a b
  refine Ev.bind e2 (Ev.bind e3 ?_)
  refine Ev.bind (Ev.val (union_f a b (by omega))) (Ev.bind e1 (Ev.bind (alike_self _ (by omega)) (Ev.yes rfl ?_)))
  refine Ev.bind (Ev.val (cut_f a b (by omega))) (Ev.bind (alike_self _ (by omega)) (Ev.yes rfl ?_))
  refine Ev.bind (Ev.val (less_f a b (by omega))) (Ev.bind (alike_self _ (by omega)) (Ev.yes rfl ?_))
  refine Ev.bind (has_ev a a2 ha (by omega)) (Ev.bind (refhas_ev a a2 (by omega)) (Ev.no (by simp) ?_))
  refine Ev.bind (Ev.val (within_f a b (by omega))) (Ev.no ?_ ?_)
  · cases keptL (fun a b => a && !b) a b with
    | nil => simp
    | cons x r =>
      have : ¬ ((r.length : Int) + 1 = 0) := by omega
      simp [this]
  refine Ev.bind (Ev.val (meet_f2 a b (by omega))) (Ev.no ?_ ?_)
  · cases keptL (fun a b => a && b) a b with
    | nil => simp
    | cons x r => simp
  refine Ev.bind (Ev.val (ahead_f a b (by omega))) (Ev.bind (refahead_ev a b (by omega) (by omega)) (Ev.no (by rw [ahead_R ha hb]; simp) ?_))
  refine Ev.bind (same_ev a b (by omega)) (Ev.bind (alike_ev a b (by omega)) (Ev.no (by simp) ?_))
  refine Ev.bind (count_ev a ha) (Ev.bind (refcount_ev a ha) (Ev.yes rfl ?_))
  refine Ev.bind (Ev.val (hull_f a (by omega))) ?_
  have go : Ev (fun k => epactlaw02_SpansTells.j0 k a3 a b a b false) true := by
    refine Ev.step (fun k => by rw [epactlaw02_SpansTells.j0]) (Ev.no (by simp) ?_)
    refine Ev.bind (move_ev a a3 ha hn) (Ev.bind (refmove_ev a a3 ha hn) (Ev.yes rfl ?_))
    have lm : (moveS a3 a).1.length ≤ 30 := by
      unfold moveS
      split
      · simpa using la
      · simp
    exact Ev.bind (alike_self _ (by omega)) (Ev.yes rfl (Ev.bind (alike_self a (by omega)) (Ev.yes rfl (Ev.bind (alike_self b (by omega)) (Ev.yes rfl (Ev.bind awake2_ev (Ev.now _)))))))
  by_cases h : a = []
  · subst h
    exact Ev.no (by simp [hullS]) (Ev.no (by simp [hullS]) go)
  · obtain ⟨s, z, h1, h2, h3, h4, h5, h6⟩ := hull_has ha h
    rw [h3]
    have hp : (a.length : Int) > 0 := by have := List.length_pos_iff.2 h; omega
    refine Ev.no (by simp [h]) (Ev.yes rfl (Ev.yes hp ?_))
    obtain ⟨p, w, rfl⟩ : ∃ p w, a = p ++ [w] := by
      rcases List.eq_nil_or_concat a with e | ⟨p, w, e⟩
      · exact absurd e h
      · exact ⟨p, w, by rw [e]; simp⟩
    have hw : w = z := by simpa using h2
    subst hw
    obtain ⟨v1, v2⟩ := rd_last p w (by omega)
    have v3 : (rd_T23 (p ++ [w]) 0).f0 = s.f0 := by
      cases p with
      | nil => simp at h1; subst h1; simp [rd_T23]
      | cons x q => simp at h1; subst h1; simp [rd_T23]
    refine Ev.yes v3.symm ?_
    rw [v1, v2]
    exact Ev.yes (by omega) (Ev.yes (by simp only [List.length_append, List.length_singleton]; omega) (Ev.yes rfl go))
end Go.Proofs.Ytmbmalkpmanaaaa.Pure


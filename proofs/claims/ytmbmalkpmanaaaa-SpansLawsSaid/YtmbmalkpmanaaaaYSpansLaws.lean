/- The law SpansLaws: it holds at every input that its row reads. No condition of its own. -/
import Derived.Test.YtmbmalkpmanaaaaYSpansLaws6
import Derived.Test.YtmbmalkpmanaaaaYSpansLaws9
import Derived.Test.YtmbmalkpmanaaaaRows
import Derived.WalkKit
import Derived.ProofKit
import Derived.OpenShut
import Derived.ShutString
import Derived.ChangeOld
import Derived.Below
import Derived.SizedLaws
namespace Go.Proofs.Ytmbmalkpmanaaaa.Pure
set_option linter.unusedVariables false
set_option linter.unusedSimpArgs false
open Go.Proofs.Ytmbmalkpmanaaaa.P Go.RowKit Go.Proofs.YtmbmalkpmanaaaaW.PrintWords

theorem same_yes {l m : List Sp} (hl : SL (-1099511627776) 1099511627776 l) (hm : SL (-1099511627776) 1099511627776 m) (h : ∀ x, hasL l x = hasL m x) : Ev (fun k => spans_Same.f k l m) true := by
  have e : l = m := SL.uniq hl hm h
  subst e
  have := same_ev l l (by have := SL.len_le hl; omega)
  rwa [alikeB_iff.2 rfl] at this

theorem SpansLaws (l0 : List Sp) (_ : ∀ s ∈ l0, spFits s) (_ : l0.length ≤ 9223372036854775807) (l1 : List Sp) (_ : ∀ s ∈ l1, spFits s) (_ : l1.length ≤ 9223372036854775807) (l2 : List Sp) (_ : ∀ s ∈ l2, spFits s) (_ : l2.length ≤ 9223372036854775807) : ∃ k, epactlaw02_SpansLaws.f k l0 l1 l2 = some true := by
  refine Ev.rounds ?_
  unfold epactlaw02_SpansLaws.f
  refine Ev.bind (made_ev l0) (Ev.bind (made_ev l1) (Ev.bind (made_ev l2) ?_))
  have ha := madeS_SL l0
  have hb := madeS_SL l1
  have hc := madeS_SL l2
  have la := madeS_len l0
  have lb := madeS_len l1
  have lc := madeS_len l2
  generalize madeS l0 = a at *
  generalize madeS l1 = b at *
  generalize madeS l2 = c at *
  have u : ∀ {p q : List Sp}, SL (-1099511627776) 1099511627776 p → SL (-1099511627776) 1099511627776 q → SL (-1099511627776) 1099511627776 (keptL (fun a b => a || b) p q) ∧ ∀ x, hasL (keptL (fun a b => a || b) p q) x = (hasL p x || hasL q x) := fun hp hq => kept_SL _ rfl hp hq
  have t : ∀ {p q : List Sp}, SL (-1099511627776) 1099511627776 p → SL (-1099511627776) 1099511627776 q → SL (-1099511627776) 1099511627776 (keptL (fun a b => a && b) p q) ∧ ∀ x, hasL (keptL (fun a b => a && b) p q) x = (hasL p x && hasL q x) := fun hp hq => kept_SL _ rfl hp hq
  have d : ∀ {p q : List Sp}, SL (-1099511627776) 1099511627776 p → SL (-1099511627776) 1099511627776 q → SL (-1099511627776) 1099511627776 (keptL (fun a b => a && !b) p q) ∧ ∀ x, hasL (keptL (fun a b => a && !b) p q) x = (hasL p x && !hasL q x) := fun hp hq => kept_SL _ rfl hp hq
  have n1 := kept_len (fun a b => a || b) a b
  have n2 := kept_len (fun a b => a || b) b c
  have n3 := kept_len (fun a b => a && b) a b
  have n4 := kept_len (fun a b => a && b) a c
  have n5 := kept_len (fun a b => a && !b) a b
  refine Ev.bind (Ev.val (union_f a b (by omega))) (Ev.bind (Ev.val (union_f b a (by omega))) (Ev.bind (same_yes (u ha hb).1 (u hb ha).1 (fun x => by rw [(u ha hb).2, (u hb ha).2, Bool.or_comm])) (Ev.yes rfl ?_)))
  refine Ev.bind (Ev.val (cut_f a b (by omega))) (Ev.bind (Ev.val (cut_f b a (by omega))) (Ev.bind (same_yes (t ha hb).1 (t hb ha).1 (fun x => by rw [(t ha hb).2, (t hb ha).2, Bool.and_comm])) (Ev.yes rfl ?_)))
  refine Ev.bind (Ev.val (union_f a b (by omega))) (Ev.bind (Ev.val (union_f _ c (by omega))) (Ev.bind (Ev.val (union_f b c (by omega))) (Ev.bind (Ev.val (union_f a _ (by omega))) (Ev.bind (same_yes (u (u ha hb).1 hc).1 (u ha (u hb hc).1).1 (fun x => by rw [(u (u ha hb).1 hc).2, (u ha hb).2, (u ha (u hb hc).1).2, (u hb hc).2, Bool.or_assoc])) (Ev.yes rfl ?_)))))
  refine Ev.bind (Ev.val (union_f b c (by omega))) (Ev.bind (Ev.val (cut_f a _ (by omega))) (Ev.bind (Ev.val (cut_f a b (by omega))) (Ev.bind (Ev.val (cut_f a c (by omega))) (Ev.bind (Ev.val (union_f _ _ (by omega))) (Ev.bind (same_yes (t ha (u hb hc).1).1 (u (t ha hb).1 (t ha hc).1).1 (fun x => by rw [(t ha (u hb hc).1).2, (u hb hc).2, (u (t ha hb).1 (t ha hc).1).2, (t ha hb).2, (t ha hc).2, Bool.and_or_distrib_left])) (Ev.yes rfl ?_))))))
  refine Ev.bind (Ev.val (union_f b c (by omega))) (Ev.bind (Ev.val (less_f a _ (by omega))) (Ev.bind (Ev.val (less_f a b (by omega))) (Ev.bind (Ev.val (less_f _ c (by omega))) (Ev.bind (same_yes (d ha (u hb hc).1).1 (d (d ha hb).1 hc).1 (fun x => by rw [(d ha (u hb hc).1).2, (u hb hc).2, (d (d ha hb).1 hc).2, (d ha hb).2]; cases hasL a x <;> cases hasL b x <;> cases hasL c x <;> rfl)) (Ev.yes rfl ?_)))))
  refine Ev.bind (Ev.val (less_f a b (by omega))) (Ev.bind (Ev.val (cut_f a b (by omega))) (Ev.bind (Ev.val (meet_f2 _ b (by omega))) (Ev.no ?_ ?_)))
  · have : keptL (fun a b => a && b) (keptL (fun a b => a && !b) a b) b = [] := SL.empty (t (d ha hb).1 hb).1 (fun x => by rw [(t (d ha hb).1 hb).2, (d ha hb).2]; cases hasL a x <;> cases hasL b x <;> rfl)
    rw [this]; simp
  have k1 : cntL (keptL (fun a b => a && !b) a b) + cntL (keptL (fun a b => a && b) a b) = cntL a := by
    have := cnt_sum (p := keptL (fun a b => a && !b) a b) (q := keptL (fun a b => a && b) a b) (r := a) (s := []) (by omega) (d ha hb).1 (t ha hb).1 ha trivial (fun x => by rw [(d ha hb).2, (t ha hb).2]; cases hasL a x <;> cases hasL b x <;> rfl)
    simpa [cntL] using this
  have k2 : cntL (keptL (fun a b => a || b) a b) + cntL (keptL (fun a b => a && b) a b) = cntL a + cntL b := cnt_sum (by omega) (u ha hb).1 (t ha hb).1 ha hb (fun x => by rw [(u ha hb).2, (t ha hb).2]; cases hasL a x <;> cases hasL b x <;> rfl)
  refine Ev.bind (count_ev _ (d ha hb).1) (Ev.bind (count_ev _ (t ha hb).1) (Ev.bind (count_ev _ ha) (Ev.yes ?_ ?_)))
  · have := cntL_le (by omega) ha
    rw [k1, wrap_ok (by omega) (by omega)]
  refine Ev.bind (Ev.val (union_f a b (by omega))) (Ev.bind (count_ev _ (u ha hb).1) (Ev.bind (count_ev _ (t ha hb).1) (Ev.bind (count_ev _ ha) (Ev.bind (count_ev _ hb) (Ev.yes (by rw [k2]) ?_)))))
  refine Ev.bind (Ev.val (within_f _ a (by omega))) (Ev.yes ?_ ?_)
  · have : keptL (fun a b => a && !b) (keptL (fun a b => a && b) a b) a = [] := SL.empty (d (t ha hb).1 ha).1 (fun x => by rw [(d (t ha hb).1 ha).2, (t ha hb).2]; cases hasL a x <;> cases hasL b x <;> rfl)
    rw [this]; simp
  refine Ev.bind (Ev.val (union_f a b (by omega))) (Ev.bind (Ev.val (within_f a _ (by omega))) (Ev.yes ?_ ?_))
  · have : keptL (fun a b => a && !b) a (keptL (fun a b => a || b) a b) = [] := SL.empty (d ha (u ha hb).1).1 (fun x => by rw [(d ha (u ha hb).1).2, (u ha hb).2]; cases hasL a x <;> cases hasL b x <;> rfl)
    rw [this]; simp
  refine Ev.bind (Ev.val (within_f a b (by omega))) (Ev.bind (same_ev _ a (by omega)) (Ev.yes ?_ ?_))
  · by_cases h : keptL (fun a b => a && b) a b = a
    · have e : keptL (fun a b => a && !b) a b = [] := SL.empty (d ha hb).1 (fun x => by
        have := (t ha hb).2 x
        rw [h] at this
        rw [(d ha hb).2]; cases h1 : hasL a x <;> cases h2 : hasL b x <;> simp_all)
      rw [e, alikeB_iff.2 h]; rfl
    · have e : ¬ keptL (fun a b => a && !b) a b = [] := fun e => h (SL.uniq (t ha hb).1 ha (fun x => by
        have := (d ha hb).2 x
        rw [e, hasL_nil] at this
        rw [(t ha hb).2]; cases h1 : hasL a x <;> cases h2 : hasL b x <;> simp_all))
      have e2 : alikeB (keptL (fun a b => a && b) a b) a = false := by rw [Bool.eq_false_iff]; exact fun e3 => h (alikeB_iff.1 e3)
      rw [e2]; simp [e]
  refine Ev.bind (Ev.val (meet_f2 a b (by omega))) (Ev.yes ?_ (Ev.bind awake2_ev (Ev.now _)))
  cases keptL (fun a b => a && b) a b with
  | nil => rfl
  | cons x r => simp
end Go.Proofs.Ytmbmalkpmanaaaa.Pure

namespace Go.Proofs.Ytmbmalkpmanaaaa.spansLaws
open Go.ChangeShapes Go.WideShapes Go.ChangeAt Go.RowKit
open Go.ChangeMaps (open_string shut_string)
set_option linter.unusedVariables false
theorem own : ownKnob Try.prog.godebug = none := by kernel_rfl
theorem laidOut : laidOutB Try.prog = true := by kernel_rfl
set_option maxRecDepth 100000 in
theorem lifted (os : Os) (started : os.Started) (H : Type) (enc : TypeId × Value → H) :
    ReturnsInHanded {} Try.checked os 8 .any (Rows.spansLawsSpec.pre6 enc Try.prog Try.f8 Rows.spansLawsRow.domain false) (Rows.spansLawsSpec.post enc Try.prog Try.f8 false true false false) := by
  refine returnsInHanded_of_change_sized (C := Try.checked) own started (by kernel_rfl) Try.func8
    (ChangeSpec.witness6 (enc := enc) (C := Try.checked) false ⟨#[], #[.slice none 0 0, .slice none 0 0, .slice none 0 0], []⟩ 8 (by kernel_rfl) (by kernel_rfl) (by kernel_rfl) (by kernel_rfl)) ?_
  intro W base args ds gs before hval0 hW hcnd hsz0 _
  have hval : ∀ (j : Nat) t v, Try.f8.params[j]? = some t → args[j]? = some v → Value.okWide Try.prog W .any base t v := hval0
  have hW' := hW
  obtain ⟨p, q, hA0, hV, rfl, hfz, hnd⟩ := hW
  have hA : DataW.TrodAll enc Try.prog W 0 (fun _ => true) true Try.f8.params.toList args.toList ds p := hA0
  rw [Try.params8] at hA hval
  obtain ⟨v0, vs0, d0, ds0, p0, q0, hargs, rfl, rfl, h0, r0⟩ := trodAll_cons hA
  obtain ⟨v1, vs1, d1, ds1, p1, q1, rfl, rfl, rfl, h1, r1⟩ := trodAll_cons r0
  obtain ⟨v2, vs2, d2, ds2, p2, q2, rfl, rfl, rfl, h2, r2⟩ := trodAll_cons r1
  obtain ⟨rfl, rfl, rfl⟩ := trodAll_nil r2
  obtain rfl : args = #[v0, v1, v2] := by cases args; simp_all
  obtain ⟨rfl, rfl⟩ := trodVars_none hV
  obtain ⟨a0, len0, cap0, rfl⟩ := okWide_slice Try.underlying24 (hval 0 24 v0 rfl rfl)
  have k0 := h0
  have lt0 : ∀ x ∈ p0, x.block < W.heap.size := by obtain ⟨m, hm⟩ := k0; exact DataW.trod_lt m _ _ _ hm
  obtain ⟨z0, rfl, w0, y0, x0, m0⟩ := P.open_spans h0
  obtain ⟨a1, len1, cap1, rfl⟩ := okWide_slice Try.underlying24 (hval 1 24 v1 rfl rfl)
  have k1 := h1
  have lt1 : ∀ x ∈ p1, x.block < W.heap.size := by obtain ⟨m, hm⟩ := k1; exact DataW.trod_lt m _ _ _ hm
  obtain ⟨z1, rfl, w1, y1, x1, m1⟩ := P.open_spans h1
  obtain ⟨a2, len2, cap2, rfl⟩ := okWide_slice Try.underlying24 (hval 2 24 v2 rfl rfl)
  have k2 := h2
  have lt2 : ∀ x ∈ p2, x.block < W.heap.size := by obtain ⟨m, hm⟩ := k2; exact DataW.trod_lt m _ _ _ hm
  obtain ⟨z2, rfl, w2, y2, x2, m2⟩ := P.open_spans h2
  clear hA0 hval0 hsz0
  obtain ⟨kk, hP⟩ := Pure.SpansLaws z0 x0 m0 z1 x1 m1 z2 x2 m2
  refine (P.epactlaw02_SpansLaws.calls kk _ _ z0 _ _ z1 _ _ z2 true W y0 w0 y1 w1 y2 w2 hP).mono fun e W' ⟨he, bel0⟩ => ?_
  have bel := bel0
  subst he
  exact ⟨_, rfl, _, _, _, [], _, [], hW', trodAll_mk1 (shut_bool Try.underlying4 _), (trodAll_cons_mk (Below.trod laidOut (by kernel_rfl) (of_decide_eq_true (by kernel_rfl)) k0 bel lt0) (trodAll_cons_mk (Below.trod laidOut (by kernel_rfl) (of_decide_eq_true (by kernel_rfl)) k1 bel lt1) (trodAll_cons_mk (Below.trod laidOut (by kernel_rfl) (of_decide_eq_true (by kernel_rfl)) k2 bel lt2) trodAll_mk0))), rfl, bel.frame _, fun h => by cases h⟩
theorem over : Rows.spansLawsRow.holds Try.pinned (OpenSpec.ofChange Rows.spansLawsSpec) :=
  OpenClaim.holds_of_wide 8 Try.f8 rfl rfl rfl rfl rfl rfl rfl ⟨rfl, rfl, rfl, rfl, rfl⟩ rfl rfl rfl rfl rfl (by kernel_rfl) Try.func8 (by kernel_rfl)
    (of_decide_eq_true (by kernel_rfl)) (by unfold Func.isWrapper; first | (rw [if_pos (by decide +kernel)]; kernel_rfl) | (rw [if_neg (by decide +kernel)]; exact ⟨rfl, rfl⟩))
    (fun os started H enc _ => lifted os started H enc)
theorem proved : Rows.SpansLawsSaid := over
#print axioms proved
end Go.Proofs.Ytmbmalkpmanaaaa.spansLaws
namespace Go.Proofs.Ytmbmalkpmanaaaa
theorem spansLaws_holds : Rows.SpansLawsSaid := spansLaws.proved
end Go.Proofs.Ytmbmalkpmanaaaa


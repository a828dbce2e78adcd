/- Lemmas for the law SpansLaws: what the functions that it reaches compute. No condition of its own. -/
import Derived.Test.YtmbmalkpmanaaaaYSpansLaws2
import Derived.Test.YtmbmalkpmanaaaaYSpansLaws8
import Derived.Test.YtmbmalkpmanaaaaYSpansLaws5
namespace Go.Proofs.Ytmbmalkpmanaaaa.P
open Go.RowKit Go.Proofs.YtmbmalkpmanaaaaW.PrintWords Go.Proofs.YtmbmalkpmanaaaaW.PrintLast Go.Proofs.YtmbmalkpmanaaaaW.PrintMore
attribute [local go_sem] max2_int min2_int max_two min_two max_three min_three max_four min_four   -- for this text's walks alone
set_option linter.unusedVariables false
set_option linter.unusedSimpArgs false

def spans_Ahead.f (l0 : List (S23)) (l1 : List (S23)) : Option (Bool) := if (l0.length : Int) = 0 then (some true) else (if (l1.length : Int) = 0 then (some true) else (if 0 ≤ (wrap64 ((l0.length : Int) - 1)) then (if (wrap64 ((l0.length : Int) - 1)) < (l0.length : Int) then (if 0 < (l1.length : Int) then (some (decide (((rd_T23 l0 (wrap64 ((l0.length : Int) - 1))).f1) < ((rd_T23 l1 0).f0)))) else (none)) else (none)) else (none)))
set_option maxHeartbeats 8000000 in
set_option maxRecDepth 100000 in
theorem spans_Ahead.calls (A0 : Option Addr) (c0 : Nat) (l0 : List (S23)) (A1 : Option Addr) (c1 : Nat) (l1 : List (S23)) (r : Bool) (w : World) (hr0 : Kd.C k23 w A0 l0.length l0) (hc0 : l0.length ≤ c0) (hr1 : Kd.C k23 w A1 l1.length l1) (hc1 : l1.length ≤ c1) (h : spans_Ahead.f l0 l1 = some r) :
    Calls Try.prog 42 #[.slice A0 l0.length c0, .slice A1 l1.length c1] w fun e w' => e = .returned (.bool r) ∧ Drawn0 w w' := by
  have HR0 := Aside0.mk hr0
  have HC0 := Aside0.mk hc0
  clear hr0 hc0
  have HR1 := Aside0.mk hr1
  have HC1 := Aside0.mk hc1
  clear hr1 hc1
  have H : (if (l0.length : Int) = 0 then (some true) else (if (l1.length : Int) = 0 then (some true) else (if 0 ≤ (wrap64 ((l0.length : Int) - 1)) then (if (wrap64 ((l0.length : Int) - 1)) < (l0.length : Int) then (if 0 < (l1.length : Int) then (some (decide (((rd_T23 l0 (wrap64 ((l0.length : Int) - 1))).f1) < ((rd_T23 l1 0).f0)))) else (none)) else (none)) else (none)))) = some r := h
  clear h
  by_cases c3 : (l0.length : Int) = 0
  · rw [if_pos c3] at H
    have c3b0 : ((l0.length : Int) == 0) = true := beq_iff_eq.mpr c3
    have c3b1 : ((l0.length : Int) != 0) = false := bne_eq_false_iff_eq.mpr c3
    clear c3
    obtain rfl := Option.some.inj H
    go_enter Try.func42, Try.ntmps42
    go_wp2
    repeat (go_quiet (fail); try go_wp2)
    go_ret
    exact ⟨by first | rfl | (simp; done) | (simp [*]; done), by repeat (first | exact Drawn0.refl _ | apply Drawn0.step)⟩
  · rw [if_neg c3] at H
    have c3b0 : ((l0.length : Int) == 0) = false := beq_eq_false_iff_ne.mpr c3
    have c3b1 : ((l0.length : Int) != 0) = true := bne_iff_ne.mpr c3
    have c3b2 : ¬ (l0 = []) := fun h_ => c3 (by rw [h_]; rfl)
    by_cases c4 : (l1.length : Int) = 0
    · rw [if_pos c4] at H
      have c4b0 : ((l1.length : Int) == 0) = true := beq_iff_eq.mpr c4
      have c4b1 : ((l1.length : Int) != 0) = false := bne_eq_false_iff_eq.mpr c4
      clear c4
      obtain rfl := Option.some.inj H
      go_enter Try.func42, Try.ntmps42
      go_wp2
      repeat (go_quiet (fail); try go_wp2)
      go_ret
      exact ⟨by first | rfl | (simp; done) | (simp [*]; done), by repeat (first | exact Drawn0.refl _ | apply Drawn0.step)⟩
    · rw [if_neg c4] at H
      have c4b0 : ((l1.length : Int) == 0) = false := beq_eq_false_iff_ne.mpr c4
      have c4b1 : ((l1.length : Int) != 0) = true := bne_iff_ne.mpr c4
      have c4b2 : ¬ (l1 = []) := fun h_ => c4 (by rw [h_]; rfl)
      obtain ⟨ji5, hji5⟩ : ∃ j_ : Int, (wrap64 ((l0.length : Int) - 1)) = j_ := ⟨_, rfl⟩
      replace H : (if 0 ≤ (ji5) then (if (ji5) < (l0.length : Int) then (if 0 < (l1.length : Int) then (some (decide (((rd_T23 l0 (ji5)).f1) < ((rd_T23 l1 0).f0)))) else (none)) else (none)) else (none)) = some r := by first | (rw [hji5] at H; exact H) | (simp only [hji5] at H ⊢; exact H)
      have hji5w : (IntKind.i64.wrap ((l0.length : Int) - 1)) = ji5 := (i64_w _).trans hji5
      by_cases c6 : 0 ≤ (ji5)
      · rw [if_pos c6] at H
        have c6b0 : decide (0 ≤ (ji5)) = true := decide_eq_true c6
        clear c6
        by_cases c7 : (ji5) < (l0.length : Int)
        · rw [if_pos c7] at H
          have c7b0 : decide ((ji5) < (l0.length : Int)) = true := decide_eq_true c7
          clear c7
          by_cases c8 : 0 < (l1.length : Int)
          · rw [if_pos c8] at H
            have c8b0 : decide (0 < (l1.length : Int)) = true := decide_eq_true c8
            have c8b1 : decide (0 < l1.length) = true := decide_eq_true (by omega)
            clear c8
            obtain rfl := Option.some.inj H
            have p624 : 0 ≤ ((ji5) : Int) := of_decide_eq_true (by first | (with_reducible assumption) | assumption)
            have q624 : (ji5) < (l0.length : Int) := of_decide_eq_true (by first | (with_reducible assumption) | assumption)
            obtain ⟨ad624, e624, hx624_0, hx624_1⟩ := at_T23 HR0.out (ji5) p624 q624
            cases e624
            replace p624 := eq_true p624
            replace q624 := eq_true q624
            have p625 : 0 ≤ (0 : Int) := (by omega)
            have q625 : 0 < (l1.length : Int) := of_decide_eq_true (by first | (with_reducible assumption) | assumption)
            obtain ⟨ad625, e625, hx625_0, hx625_1⟩ := at_T23 HR1.out 0 p625 q625
            cases e625
            have qi625 : (0 < l1.length) = True := eq_true (by omega)
            (try rw [show ((0 : Int)).toNat = 0 from rfl] at hx625_0)
            (try rw [show 0 * 2 = 0 from rfl] at hx625_0)
            (try rw [Addr.add_zero'] at hx625_0)
            (try rw [show ((0 : Int)).toNat = 0 from rfl] at hx625_1)
            (try rw [show 0 * 2 = 0 from rfl] at hx625_1)
            (try rw [Addr.add_zero'] at hx625_1)
            replace p625 := eq_true p625
            replace q625 := eq_true q625
            go_enter Try.func42, Try.ntmps42
            go_wp2
            repeat (go_quiet (fail); try go_wp2)
            go_ret
            exact ⟨by first | rfl | (simp; done) | (simp only [← hji5] <;> (first | rfl | simp)) | (simp [*]; done), by repeat (first | exact Drawn0.refl _ | apply Drawn0.step)⟩
          · rw [if_neg c8] at H
            exact absurd H (by simp)
        · rw [if_neg c7] at H
          exact absurd H (by simp)
      · rw [if_neg c6] at H
        exact absurd H (by simp)

end Go.Proofs.Ytmbmalkpmanaaaa.P

namespace Go.Proofs.Ytmbmalkpmanaaaa.P
set_option linter.unusedVariables false
set_option linter.unusedSimpArgs false
open Go.RowKit Go.Proofs.YtmbmalkpmanaaaaW.PrintWords

theorem glueAll_len : ∀ (l out : List Sp), (l.foldl glue out).length ≤ out.length + l.length
  | [], out => by simp
  | s :: r, out => by
    have h1 := glueAll_len r (glue out s)
    have h2 := glue_len out s
    simp only [List.foldl_cons, List.length_cons]; omega
theorem makeS_len (l : List Sp) : (makeS l).1.length ≤ l.length := by
  unfold makeS
  split
  · simp
  · split
    · simp
    · have := glueAll_len (sortSp l) []
      rw [sortSp_len] at this; simpa using this

def madeS (l : List Sp) : List Sp := (makeS (l.take 40)).1
theorem madeS_SL (l : List Sp) : SL (-1099511627776) 1099511627776 (madeS l) := (makeS_spec _).1
theorem madeS_len (l : List Sp) : (madeS l).length ≤ 40 := by have := makeS_len (l.take 40); simp at this; unfold madeS; omega
theorem made_ev (l : List Sp) : Ev (fun k => epactlaw02_made.f k l) (madeS l) := by
  unfold epactlaw02_made.f
  have hm : mn (l.length : Int) 40 = ((min l.length 40 : Nat) : Int) := by unfold mn; split <;> omega
  refine Ev.yes (by rw [hm]; omega) (Ev.yes (by rw [hm]; omega) ?_)
  have ht : l.take (mn (l.length : Int) 40).toNat = l.take 40 := by
    rw [hm, Int.toNat_natCast]
    by_cases h : l.length ≤ 40
    · rw [Nat.min_eq_left h, List.take_of_length_le (Nat.le_refl _), List.take_of_length_le h]
    · rw [Nat.min_eq_right (by omega)]
  rw [ht]
  exact Ev.bind (make_ev (l.take 40) (by simp; omega)) (Ev.now _)

theorem kept_SL (yes : Bool → Bool → Bool) (hy : yes false false = false) {a b : List Sp} (ha : SL (-1099511627776) 1099511627776 a) (hb : SL (-1099511627776) 1099511627776 b) :
    SL (-1099511627776) 1099511627776 (keptL yes a b) ∧ ∀ x, hasL (keptL yes a b) x = yes (hasL a x) (hasL b x) := keptL_spec yes hy (by omega) (by omega) ha hb
theorem SL.empty {lo hi : Int} {l : List Sp} (h : SL lo hi l) : (∀ x, hasL l x = false) → l = [] := by
  intro hx
  cases l with
  | nil => rfl
  | cons s r => have := hx s.f0; rw [hasL_cons] at this; have h2 := h.2.1; simp [h2] at this
end Go.Proofs.Ytmbmalkpmanaaaa.P

namespace Go.Proofs.Ytmbmalkpmanaaaa.P
set_option linter.unusedVariables false
set_option linter.unusedSimpArgs false
open Go.RowKit Go.Proofs.YtmbmalkpmanaaaaW.PrintWords

theorem same_ev (l m : List Sp) (hl : l.length ≤ 4611686018427387904) : Ev (fun k => spans_Same.f k l m) (alikeB l m) := by
  have fin : Ev (fun k => api_Span.f k l m) (alikeB l m) := by
    by_cases hlm : l.length = m.length
    · have key : ∀ (r q p u : List Sp), l = p ++ r → m = u ++ q → p.length = u.length → Ev (fun k => api_Span.l0 k l m (l.length : Int) (p.length : Int)) (alikeB r q) := by
        intro r
        induction r with
        | nil =>
          intro q p u h1 h2 h3
          have hq : q = [] := by
            have : q.length = 0 := by have a := congrArg List.length h1; have b := congrArg List.length h2; simp at a b; omega
            exact List.eq_nil_of_length_eq_zero this
          subst hq
          refine Ev.step (f := fun _ => some true) (fun k => ?_) (Ev.now _)
          rw [api_Span.l0, if_neg (by rw [h1]; simp)]
        | cons s r ih =>
          intro q p u h1 h2 h3
          cases q with
          | nil => have a := congrArg List.length h1; have b := congrArg List.length h2; simp at a b; omega
          | cons t q =>
            have hlen : p.length + 1 ≤ l.length := by rw [h1]; simp
            have hrd : rd_T23 l (p.length : Int) = s := by rw [h1]; exact rd_mid _ _ _
            have hrm : rd_T23 m (p.length : Int) = t := by rw [h2, h3]; exact rd_mid _ _ _
            have hw := wrap_len p s l.length hlen (by omega)
            have c1 : (p.length : Int) < (l.length : Int) := by omega
            have c2 : (0 : Int) ≤ (p.length : Int) := by omega
            have c3 : (p.length : Int) < (m.length : Int) := by omega
            by_cases e : s.f0 = t.f0 ∧ s.f1 = t.f1
            · have : alikeB (s :: r) (t :: q) = alikeB r q := by simp [alikeB, e]
              rw [this]
              refine Ev.step (fun k => ?_) (ih q (p ++ [s]) (u ++ [t]) (by rw [h1]; simp) (by rw [h2]; simp) (by simp [h3]))
              rw [api_Span.l0, if_pos c1, if_pos c2, if_pos c1, if_pos c3, hrd, hrm, if_neg (by simp [e]), hw]
            · refine Ev.step (f := fun _ => some (alikeB (s :: r) (t :: q))) (fun k => ?_) (Ev.now _)
              rw [api_Span.l0, if_pos c1, if_pos c2, if_pos c1, if_pos c3, hrd, hrm]
              have e2 : alikeB (s :: r) (t :: q) = false := by
                rw [Bool.eq_false_iff]; intro h; simp [alikeB] at h; exact e h.1
              rw [if_pos (by by_cases a : s.f0 = t.f0 <;> by_cases b : s.f1 = t.f1 <;> simp [a, b] <;> exact e ⟨a, b⟩), e2]
      refine Ev.congr (fun k => ?_) (key l m [] [] rfl rfl rfl)
      simp only [api_Span.f]
      rw [if_pos (by omega)]
      rfl
    · rw [alikeB_len hlm]
      refine Ev.congr (fun k => ?_) (Ev.now _)
      simp only [api_Span.f]
      rw [if_neg (by omega)]
  unfold spans_Same.f
  exact Ev.bind fin (Ev.now _)

def cntL : List Sp → Int
  | [] => 0
  | s :: r => (s.f1 - s.f0 + 1) + cntL r
theorem cntL_append (a b : List Sp) : cntL (a ++ b) = cntL a + cntL b := by
  induction a with
  | nil => simp [cntL]
  | cons s r ih => simp [cntL, ih]; omega
theorem cntL_le {hi : Int} : ∀ {l : List Sp} {lo : Int}, lo ≤ hi + 2 → SL lo hi l → 0 ≤ cntL l ∧ cntL l ≤ hi + 2 - lo
  | [], lo, h, _ => by simp [cntL]; omega
  | s :: r, lo, h, hs => by
    obtain ⟨h1, h2, h3, h4⟩ := hs
    have := cntL_le (by omega) h4
    simp only [cntL]; omega
theorem SL.front {lo hi : Int} {p r : List Sp} (h : SL lo hi (p ++ r)) : SL lo hi p := by
  induction p generalizing lo with
  | nil => trivial
  | cons s p ih => exact ⟨h.1, h.2.1, h.2.2.1, ih h.2.2.2⟩

theorem count_ev (l : List Sp) (hs : SL (-1099511627776) 1099511627776 l) : Ev (fun k => spans_Count.f k l) (cntL l) := by
  have hl := SL.len_le hs
  have key : ∀ (rest pre : List Sp), l = pre ++ rest → Ev (fun k => spans_Count.l0 k (cntL pre) l (l.length : Int) (pre.length : Int)) (cntL l) := by
    intro rest
    induction rest with
    | nil =>
      intro pre hp
      have : l = pre := by rw [hp]; simp
      refine Ev.step (f := fun _ => some (cntL l)) (fun k => ?_) (Ev.now _)
      rw [spans_Count.l0, if_neg (by rw [hp]; simp), this]
    | cons s r ih =>
      intro pre hp
      have hlen : pre.length + 1 ≤ l.length := by rw [hp]; simp
      have hrd : rd_T23 l (pre.length : Int) = s := by rw [hp]; exact rd_mid _ _ _
      have hw := wrap_len pre s l.length hlen (by omega)
      have c1 : (pre.length : Int) < (l.length : Int) := by omega
      have c2 : (0 : Int) ≤ (pre.length : Int) := by omega
      have hp2 : l = (pre ++ [s]) ++ r := by rw [hp]; simp
      have hc := cntL_le (by omega) (SL.front (hp ▸ hs) : SL _ _ pre)
      have hc2 := cntL_le (by omega) (SL.front (hp2 ▸ hs) : SL _ _ (pre ++ [s]))
      have ht := SL.ticks hs (s := s) (by rw [hp]; simp)
      have hcs : cntL (pre ++ [s]) = cntL pre + (s.f1 - s.f0 + 1) := by rw [cntL_append]; simp [cntL]
      have hw1 : wrap64 (cntL pre + wrap64 (wrap64 (s.f1 - s.f0) + 1)) = cntL (pre ++ [s]) := by
        rw [wrap_ok (n := s.f1 - s.f0) (by omega) (by omega), wrap_ok (n := s.f1 - s.f0 + 1) (by omega) (by omega), wrap_ok (by omega) (by omega), hcs]
      refine Ev.step (fun k => ?_) (ih (pre ++ [s]) hp2)
      rw [spans_Count.l0, if_pos c1, if_pos c2, if_pos c1, hrd, hw1, hw]
  exact key l [] rfl

def tally (p : Int → Bool) (lo : Int) : Nat → Int
  | 0 => 0
  | n + 1 => tally p lo n + (if p (lo + n) then 1 else 0)
theorem tally_split (p : Int → Bool) (lo : Int) (n : Nat) : ∀ m, tally p lo (n + m) = tally p lo n + tally p (lo + n) m
  | 0 => by simp [tally]
  | m + 1 => by
    have := tally_split p lo n m
    rw [← Nat.add_assoc]
    simp only [tally, this]
    have : lo + ((n + m : Nat) : Int) = lo + (n : Int) + (m : Int) := by omega
    rw [this]; omega
theorem tally_all {p : Int → Bool} {lo : Int} : ∀ n : Nat, (∀ x, lo ≤ x → x < lo + n → p x = true) → tally p lo n = n
  | 0, _ => by simp [tally]
  | n + 1, h => by
    rw [tally, tally_all n (fun x h1 h2 => h x h1 (by omega)), h (lo + n) (by omega) (by omega)]; simp
theorem tally_none {p : Int → Bool} {lo : Int} : ∀ n : Nat, (∀ x, lo ≤ x → x < lo + n → p x = false) → tally p lo n = 0
  | 0, _ => by simp [tally]
  | n + 1, h => by
    rw [tally, tally_none n (fun x h1 h2 => h x h1 (by omega)), h (lo + n) (by omega) (by omega)]; simp
theorem tally_congr {p q : Int → Bool} {lo : Int} : ∀ n : Nat, (∀ x, lo ≤ x → x < lo + n → p x = q x) → tally p lo n = tally q lo n
  | 0, _ => by simp [tally]
  | n + 1, h => by
    rw [tally, tally, tally_congr n (fun x h1 h2 => h x h1 (by omega)), h (lo + n) (by omega) (by omega)]
theorem tally_sum {p q r s : Int → Bool} (lo : Int) (h : ∀ x, (if p x then (1 : Int) else 0) + (if q x then 1 else 0) = (if r x then 1 else 0) + (if s x then 1 else 0)) : ∀ n : Nat, tally p lo n + tally q lo n = tally r lo n + tally s lo n
  | 0 => by simp [tally]
  | n + 1 => by
    have := tally_sum lo h n
    have := h (lo + n)
    simp only [tally]; omega
theorem cntL_tally {hi : Int} : ∀ {l : List Sp} {lo : Int} (n : Nat), lo + n = hi + 1 → SL lo hi l → tally (hasL l) lo n = cntL l
  | [], lo, n, _, _ => by rw [tally_none (p := hasL []) n (fun x _ _ => rfl)]; rfl
  | s :: r, lo, n, hn, hs => by
    obtain ⟨h1, h2, h3, h4⟩ := hs
    obtain ⟨a, ha⟩ : ∃ a : Nat, (a : Int) = s.f0 - lo := ⟨(s.f0 - lo).toNat, by omega⟩
    obtain ⟨b, hb⟩ : ∃ b : Nat, (b : Int) = s.f1 - s.f0 + 1 := ⟨(s.f1 - s.f0 + 1).toNat, by omega⟩
    obtain ⟨c, hc⟩ : ∃ c : Nat, (c : Int) = hi - s.f1 := ⟨(hi - s.f1).toNat, by omega⟩
    have hnn : n = a + (b + c) := by omega
    have e1 : lo + (a : Int) = s.f0 := by omega
    have e2 : s.f0 + (b : Int) = s.f1 + 1 := by omega
    rw [hnn, tally_split, tally_split, e1, e2]
    rw [tally_none a (fun x g1 g2 => by
      rw [hasL_cons]
      have g3 : ¬ s.f0 ≤ x := by omega
      rw [SL.low h4 (by omega)]; simp [g3])]
    rw [tally_all b (fun x g1 g2 => by
      rw [hasL_cons]
      have g3 : s.f0 ≤ x := by omega
      have g4 : x ≤ s.f1 := by omega
      simp [g3, g4])]
    rw [tally_congr (q := hasL r) c (fun x g1 g2 => by
      rw [hasL_cons]
      have g4 : ¬ x ≤ s.f1 := by omega
      simp [g4])]
    rw [cntL_tally c (by omega) (SL.mono (by omega) h4)]
    simp only [cntL]; omega
theorem cnt_sum {p q r s : List Sp} {lo hi : Int} (hlh : lo ≤ hi + 1) (hp : SL lo hi p) (hq : SL lo hi q) (hr : SL lo hi r) (hs : SL lo hi s) (h : ∀ x, (if hasL p x then (1 : Int) else 0) + (if hasL q x then 1 else 0) = (if hasL r x then 1 else 0) + (if hasL s x then 1 else 0)) :
    cntL p + cntL q = cntL r + cntL s := by
  obtain ⟨n, hn⟩ : ∃ n : Nat, (n : Int) = hi + 1 - lo := ⟨(hi + 1 - lo).toNat, by omega⟩
  rw [← cntL_tally n (by omega) hp, ← cntL_tally n (by omega) hq, ← cntL_tally n (by omega) hr, ← cntL_tally n (by omega) hs]
  exact tally_sum lo h n

theorem kept_len (yes : Bool → Bool → Bool) (a b : List Sp) : (keptL yes a b).length ≤ 2 * a.length + 2 * b.length := by
  have h1 := kfold_len yes (bords a false b false)
  have h2 := bords_len _ a false b false (Nat.le_refl _)
  unfold keptL
  have h3 : msr a false + msr b false ≤ 2 * a.length + 2 * b.length := by unfold msr; simp
  omega
theorem union_f (a b : List Sp) (h : a.length + b.length ≤ 1000000) : spans_Union.f a b = some (keptL (fun a b => a || b) a b) := by unfold spans_Union.f; rw [if_pos (by unfold many; omega)]
theorem cut_f (a b : List Sp) (h : a.length + b.length ≤ 1000000) : spans_Cut.f a b = some (keptL (fun a b => a && b) a b) := by unfold spans_Cut.f; rw [if_pos (by unfold many; omega)]
theorem less_f (a b : List Sp) (h : a.length + b.length ≤ 1000000) : spans_Less.f a b = some (keptL (fun a b => a && !b) a b) := by unfold spans_Less.f; rw [if_pos (by unfold many; omega)]
theorem meet_f2 (a b : List Sp) (h : a.length + b.length ≤ 1000000) : spans_Meet.f a b = some (decide ((keptL (fun a b => a && b) a b) ≠ [])) := by
  unfold spans_Meet.f; rw [cut_f a b h, Option.bind_some]
  cases keptL (fun a b => a && b) a b with
  | nil => rfl
  | cons x r => simp
theorem within_f (a b : List Sp) (h : a.length + b.length ≤ 1000000) : spans_Within.f a b = some (decide ((keptL (fun a b => a && !b) a b) = [])) := by
  unfold spans_Within.f; rw [less_f a b h, Option.bind_some]
  cases keptL (fun a b => a && !b) a b with
  | nil => rfl
  | cons x r =>
    have : ¬ ((r.length : Int) + 1 = 0) := by omega
    simp [this]
end Go.Proofs.Ytmbmalkpmanaaaa.P


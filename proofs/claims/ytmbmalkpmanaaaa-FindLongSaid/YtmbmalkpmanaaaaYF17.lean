/- Lemmas for laws of chapter 7: what the functions that they reach compute. No condition of its own. -/
import Derived.Test.YtmbmalkpmanaaaaYF11
import Derived.Test.YtmbmalkpmanaaaaYF15
import Derived.Test.YtmbmalkpmanaaaaYF2
import Derived.Deep.Slices
import Derived.Test.YtmbmalkpmanaaaaYF16
import Derived.Test.YtmbmalkpmanaaaaYF7
import Derived.Test.YtmbmalkpmanaaaaYF14
namespace Go.Proofs.Ytmbmalkpmanaaaa.P
set_option linter.unusedVariables false
set_option linter.unusedSimpArgs false
open Go.RowKit Go.Shelf Go.Proofs.YtmbmalkpmanaaaaW.aK Go.Proofs.YtmbmalkpmanaaaaW.bK Go.Proofs.YtmbmalkpmanaaaaW.bM
def aex : List (List S23) := [[⟨0, 4⟩]]
theorem arB : mQ.f [⟨0, 4⟩] [⟨3, 8⟩] = some [⟨3, 4⟩] := by
  obtain ⟨h1, h2⟩ := aaM (fun a b => a && b) rfl (lo := 0) (hi := 100) (by omega) (by omega) (a := [⟨0, 4⟩]) (b := [⟨3, 8⟩]) (by simp [SL]) (by simp [SL])
  have : yh (fun a b => a && b) [⟨0, 4⟩] [⟨3, 8⟩] = [⟨3, 4⟩] := SL.uniq h1 (show SL 0 100 _ by simp [SL]) (fun x => by
    rw [h2, Bool.eq_iff_iff]; simp [qE]; omega)
  unfold mQ.f; rw [if_pos (by simp [many]), this]
theorem arC : mQ.f [⟨7, 11⟩] [⟨3, 8⟩] = some [⟨7, 8⟩] := by
  obtain ⟨h1, h2⟩ := aaM (fun a b => a && b) rfl (lo := 0) (hi := 100) (by omega) (by omega) (a := [⟨7, 11⟩]) (b := [⟨3, 8⟩]) (by simp [SL]) (by simp [SL])
  have : yh (fun a b => a && b) [⟨7, 11⟩] [⟨3, 8⟩] = [⟨7, 8⟩] := SL.uniq h1 (show SL 0 100 _ by simp [SL]) (fun x => by
    rw [h2, Bool.eq_iff_iff]; simp [qE]; omega)
  unfold mQ.f; rw [if_pos (by simp [many]), this]
theorem ano : dM.f 60 7 1 aex [] [⟨3, 8⟩] = some ([0, 1], 0) := by
  have h : fF.f 60 7 1 aex [] 3 8 = some [(0, [⟨0, 4⟩]), (1, [⟨7, 11⟩])] := by with_unfolding_all rfl
  have hr : bE.f 60 [⟨3, 8⟩] = some true := by with_unfolding_all rfl
  have hh : eD.f [⟨3, 8⟩] = some (3, 8, true) := by with_unfolding_all rfl
  simp only [dM.f, hr, hh, h, Option.bind_some, if_true, dM.l, oO.f, arB, arC]
  rfl
theorem anp : dM.f 60 7 1 aex [] [⟨5, 6⟩] = some ([], 0) := by
  have h : fF.f 60 7 1 aex [] 5 6 = some [] := by with_unfolding_all rfl
  have hr : bE.f 60 [⟨5, 6⟩] = some true := by with_unfolding_all rfl
  have hh : eD.f [⟨5, 6⟩] = some (5, 6, true) := by with_unfolding_all rfl
  simp only [dM.f, hr, hh, h, Option.bind_some, if_true, dM.l]
theorem auh : jr.f 60 7 1 aex [] 9 = some (1, true) := by with_unfolding_all rfl
theorem aui : jr.f 60 7 1 aex [] 5 = some (0, false) := by with_unfolding_all rfl
theorem anq : bP.f 60 7 1 aex [] 5 = some (1, true) := by with_unfolding_all rfl
theorem anr : bV.f 60 7 1 aex [] 5 = some (0, true) := by with_unfolding_all rfl
theorem arD : bF.f 60 [0, 1] [0, 1] = some true := by with_unfolding_all rfl
theorem ant : bP.f 60 0 0 [] [⟨3, [⟨5, 6⟩]⟩] 7 = some (0, false) := by with_unfolding_all rfl
theorem anu : bV.f 60 0 0 [] [⟨3, [⟨5, 6⟩]⟩] 100 = some (3, true) := by with_unfolding_all rfl
theorem alF : aY.f 60 = some true := by
  unfold aY.f kW.f
  rw [Option.bind_some, Option.bind_some]
  dsimp only
  rw [show ([[⟨0, 4⟩]] : List (List S23)) = aex from rfl]
  rw [ano, Option.bind_some, anp, Option.bind_some]
  rw [show aX.f 1 true = some 0 from rfl, Option.bind_some, auh, Option.bind_some]
  rw [show aJ.f 1 true 1 true = some true from rfl, Option.bind_some, if_pos rfl]
  rw [show aX.f 0 false = some 0 from rfl, Option.bind_some, aui, Option.bind_some]
  rw [show aJ.f 0 false 0 false = some true from rfl, Option.bind_some, if_pos rfl]
  rw [Option.bind_some, anq, Option.bind_some]
  rw [show aJ.f 1 true 1 true = some true from rfl, Option.bind_some, if_pos rfl]
  rw [show aX.f 0 true = some 0 from rfl, Option.bind_some, anr, Option.bind_some]
  rw [show aJ.f 0 true 0 true = some true from rfl, Option.bind_some, if_pos rfl]
  rw [if_pos rfl, if_pos rfl, arD, Option.bind_some, if_pos rfl]
  rw [show ((([], 0) : List Int × Int).1.length : Int) = 0 from rfl, if_pos rfl]
  rw [Option.bind_some, ant, Option.bind_some]
  rw [show aJ.f 0 false 0 false = some true from rfl, Option.bind_some, if_pos rfl]
  rw [show aX.f 3 true = some 0 from rfl, Option.bind_some, anu, Option.bind_some]
  rfl
theorem pW : Ev (fun k => aY.f k) true := Ev.of aY.mono alF
end Go.Proofs.Ytmbmalkpmanaaaa.P
namespace Go.Proofs.Ytmbmalkpmanaaaa.P
set_option linter.unusedVariables false
set_option linter.unusedSimpArgs false
open Go.RowKit Go.ChangeShapes Go.WideShapes Go.Deep Go.Proofs.YtmbmalkpmanaaaaW.aK Go.Proofs.YtmbmalkpmanaaaaW.bM
theorem aji {cs : List Value} (h : cs.length = 2) : ∃ a b, cs = [a, b] := by
  match cs, h with
  | [a, b], _ => exact ⟨a, b, rfl⟩
theorem ajk {cs : List Value} (h : cs.length = 4) : ∃ a b c d, cs = [a, b, c, d] := by
  match cs, h with
  | [a, b, c, d], _ => exact ⟨a, b, c, d, rfl⟩
theorem ahu {T : Type} (k : Kd T) {H : Type} {enc : TypeId × Value → H} {w : World} {base : Nat} {held : Bool} {t e : TypeId} {fuel : Nat} {cs : List Value} {x : DataW H × List MemPlace}
    (ht : Try.prog.underlying t = some (.slice e)) (hn : Try.prog.cellsOf e = k.sz) (Q : T → Prop)
    (op : ∀ fuel cs x, DataW.trod enc Try.prog w base (fun _ => true) held fuel e cs = some x → ∃ v, k.K w v cs ∧ Q v)
    (h : DataW.trod enc Try.prog w base (fun _ => true) held fuel t cs = some x) :
    ∃ (a : Option Addr) (cap : Nat) (l : List T), cs = [.slice a l.length cap] ∧ l.length ≤ cap ∧ Kd.C k w a l.length l ∧ (∀ s ∈ l, Q s) ∧ l.length ≤ 9223372036854775807 := by
  rcases open_slice ht h with ⟨hc, _⟩ | ⟨a, len, cap, m, n, D, Pl, hc, hb, hl, hm, hmm, hx, hi⟩
  · exact ⟨none, 0, [], by rw [hc]; rfl, Nat.le_refl _, ⟨rfl, by simp, fun h => absurd h (by simp)⟩, by simp, by simp⟩
  · have hlm : len ≤ m := by rw [hmm]; simpa using hl
    have hk : ∀ i, i < len → ∃ v cs', k.K w v cs' ∧ Q v ∧ ∀ j u, cs'[j]? = some u → w.cell? (a.add (i * k.sz + j)) = some u := by
      intro i hi'
      obtain ⟨cs', h1, h2⟩ := hi i (by omega)
      rw [hn] at h1
      obtain ⟨_, hlen, hcell⟩ := World.cells?_some h1
      obtain ⟨v, v1, v2⟩ := op _ _ _ h2
      refine ⟨v, cs', v1, v2, fun j u hu => ?_⟩
      have hj : j < k.sz := by rw [← hlen]; exact (List.getElem?_eq_some_iff.1 hu).1
      have := hcell j hj
      rw [Deep.add_add] at this
      rw [this, hu]
    have hmax : len ≤ 9223372036854775807 := by unfold maxLen at hm; omega
    suffices key : ∀ q, q ≤ len → ∃ l : List T, l.length = q ∧ (∀ j s, l[j]? = some s → ∃ cs', k.K w s cs' ∧ ∀ i u, cs'[i]? = some u → w.cell? (a.add (j * k.sz + i)) = some u) ∧ ∀ s ∈ l, Q s by
      obtain ⟨l, rfl, hl2, hfit⟩ := key len (Nat.le_refl _)
      refine ⟨some a, cap, l, hc, hl, ⟨rfl, hmax, fun _ => ⟨a, rfl, fun j s hj => ?_⟩⟩, hfit, hmax⟩
      obtain ⟨cs', g1, g2⟩ := hl2 j s hj
      exact ⟨cs', k.vC g1, g1, g2⟩
    intro q
    induction q with
    | zero => exact fun _ => ⟨[], rfl, fun j s h => by simp at h, by simp⟩
    | succ q ih =>
      intro hk'
      obtain ⟨l, hl1, hl2, hl3⟩ := ih (by omega)
      obtain ⟨s, cs', h0, h1, h2⟩ := hk q (by omega)
      refine ⟨l ++ [s], by simp [hl1], fun j t hj => ?_, fun t ht => ?_⟩
      · by_cases hjk : j < l.length
        · rw [List.getElem?_append_left hjk] at hj; exact hl2 j t hj
        · rw [List.getElem?_append_right (by omega)] at hj
          have : j - l.length = 0 := by
            by_cases e : j - l.length = 0
            · exact e
            · rw [List.getElem?_eq_none (by simp; omega)] at hj; cases hj
          rw [this] at hj
          simp at hj
          subst hj
          have : j = q := by omega
          subst this
          exact ⟨cs', h0, h2⟩
      · simp at ht
        rcases ht with ht | rfl
        · exact hl3 t ht
        · exact h1
section
variable {H : Type} {enc : TypeId × Value → H} {w : World} {base : Nat} {held : Bool} {fuel : Nat} {cs : List Value} {x : DataW H × List MemPlace}
theorem xR (h : DataW.trod enc Try.prog w base (fun _ => true) held fuel 3 cs = some x) : ∃ n, cs = [.int .i64 n] ∧ fits n := by
  obtain ⟨n, e0, _, w0⟩ := DataW.trod_int Try.underlying3 h
  exact ⟨n, e0, w0⟩
theorem arE (h : DataW.trod enc Try.prog w base (fun _ => true) held fuel 23 cs = some x) : ∃ s : Sp, k23.K w s cs ∧ acv s := by
  obtain ⟨xs, n, _, _, hl, hxs, hf⟩ := DataW.trod_struct Try.underlying23 h
  have e9 : Try.prog.cellsOf 23 = 2 := by kernel_rfl
  rw [e9] at hl
  have hl2 : cs.length = 2 := hl
  clear hl e9
  obtain ⟨v0, v1, rfl⟩ := aji hl2
  have g0 : DataW.trod enc Try.prog w base (fun _ => true) held n 3 (List.take (Try.prog.cellsOf 3) (List.drop 0 [v0, v1])) = xs[0]? := hf 0 _ rfl
  rw [show Try.prog.cellsOf 3 = 1 by kernel_rfl] at g0
  have g1 : DataW.trod enc Try.prog w base (fun _ => true) held n 3 (List.take (Try.prog.cellsOf 3) (List.drop 1 [v0, v1])) = xs[1]? := hf 1 _ rfl
  rw [show Try.prog.cellsOf 3 = 1 by kernel_rfl] at g1
  cases hx0 : xs[0]? with
  | none => have := List.getElem?_eq_none_iff.1 hx0; rw [hxs] at this; exact absurd this (by decide)
  | some y0 =>
    cases hx1 : xs[1]? with
    | none => have := List.getElem?_eq_none_iff.1 hx1; rw [hxs] at this; exact absurd this (by decide)
    | some y1 =>
      rw [hx0] at g0
      rw [hx1] at g1
      obtain ⟨a, ea, wa⟩ := xR g0
      obtain ⟨b, eb, wb⟩ := xR g1
      have ea' : [v0] = [.int .i64 a] := ea
      have eb' : [v1] = [.int .i64 b] := eb
      injection ea' with ea'
      injection eb' with eb'
      subst ea' eb'
      exact ⟨⟨a, b⟩, asL w ⟨a, b⟩, wa, wb⟩
theorem aiq (h : DataW.trod enc Try.prog w base (fun _ => true) held fuel 24 cs = some x) : ∃ (a : Option Addr) (cap : Nat) (l : List Sp), cs = [.slice a l.length cap] ∧ l.length ≤ cap ∧ Kd.C k23 w a l.length l ∧ (∀ s ∈ l, acv s) ∧ l.length ≤ 9223372036854775807 :=
  ahu k23 Try.underlying24 (by kernel_rfl) acv (fun _ _ _ g => arE g) h
theorem alG (h : DataW.trod enc Try.prog w base (fun _ => true) held fuel 24 cs = some x) : ∃ l : List Sp, (Kd.slice 23 k23).K w l cs ∧ ((∀ s ∈ l, acv s) ∧ l.length ≤ 9223372036854775807) := by
  obtain ⟨a, cap, l, rfl, h1, h2, h3, h4⟩ := aiq h
  exact ⟨l, ⟨a, cap, rfl, h1, h2⟩, h3, h4⟩
theorem alH (h : DataW.trod enc Try.prog w base (fun _ => true) held fuel 25 cs = some x) : ∃ (a : Option Addr) (cap : Nat) (l : List (List Sp)), cs = [.slice a l.length cap] ∧ l.length ≤ cap ∧ Kd.C (Kd.slice 23 k23) w a l.length l ∧ (∀ s ∈ l, (∀ z ∈ s, acv z) ∧ s.length ≤ 9223372036854775807) ∧ l.length ≤ 9223372036854775807 :=
  ahu (Kd.slice 23 k23) Try.underlying25 (by kernel_rfl) _ (fun _ _ _ g => alG g) h
def air (g : S70) : Prop := fits g.f0 ∧ (∀ z ∈ g.f1, acv z) ∧ g.f1.length ≤ 9223372036854775807
theorem arF (h : DataW.trod enc Try.prog w base (fun _ => true) held fuel 70 cs = some x) : ∃ g : S70, k70.K w g cs ∧ air g := by
  obtain ⟨xs, n, _, _, hl, hxs, hf⟩ := DataW.trod_struct Try.underlying70 h
  have e9 : Try.prog.cellsOf 70 = 2 := by kernel_rfl
  rw [e9] at hl
  have hl2 : cs.length = 2 := hl
  clear hl e9
  obtain ⟨v0, v1, rfl⟩ := aji hl2
  have g0 : DataW.trod enc Try.prog w base (fun _ => true) held n 3 (List.take (Try.prog.cellsOf 3) (List.drop 0 [v0, v1])) = xs[0]? := hf 0 _ rfl
  rw [show Try.prog.cellsOf 3 = 1 by kernel_rfl] at g0
  have g1 : DataW.trod enc Try.prog w base (fun _ => true) held n 24 (List.take (Try.prog.cellsOf 24) (List.drop 1 [v0, v1])) = xs[1]? := hf 1 _ rfl
  rw [show Try.prog.cellsOf 24 = 1 by kernel_rfl] at g1
  cases hx0 : xs[0]? with
  | none => have := List.getElem?_eq_none_iff.1 hx0; rw [hxs] at this; exact absurd this (by decide)
  | some y0 =>
    cases hx1 : xs[1]? with
    | none => have := List.getElem?_eq_none_iff.1 hx1; rw [hxs] at this; exact absurd this (by decide)
    | some y1 =>
      rw [hx0] at g0
      rw [hx1] at g1
      obtain ⟨a, ea, wa⟩ := xR g0
      obtain ⟨b, cap, l, eb, l1, l2, l3, l4⟩ := aiq g1
      have ea' : [v0] = [.int .i64 a] := ea
      have eb' : [v1] = [.slice b l.length cap] := eb
      injection ea' with ea'
      injection eb' with eb'
      subst ea' eb'
      exact ⟨⟨a, l⟩, anI w ⟨a, l⟩ l1 l2, wa, l3, l4⟩
theorem anv (h : DataW.trod enc Try.prog w base (fun _ => true) held fuel 26 cs = some x) : ∃ (a : Option Addr) (cap : Nat) (l : List S70), cs = [.slice a l.length cap] ∧ l.length ≤ cap ∧ Kd.C k70 w a l.length l ∧ (∀ s ∈ l, air s) ∧ l.length ≤ 9223372036854775807 :=
  ahu k70 Try.underlying26 (by kernel_rfl) air (fun _ _ _ g => arF g) h
structure ai3 (p c : Int) (core : List (List Sp)) (odd : List S70) : Prop where
  fp : fits p
  fc : fits c
  azK : ∀ l ∈ core, (∀ z ∈ l, acv z) ∧ l.length ≤ 9223372036854775807
  aC2 : ∀ g ∈ odd, air g
  lc : core.length ≤ 9223372036854775807
  lo : odd.length ≤ 9223372036854775807
set_option maxRecDepth 200000 in
theorem acI {b0 : Nat} {v : Value} {d : DataW H} {ps : List MemPlace} (hv : Value.okWide Try.prog w .any b0 28 v) (h : DataW.Trod enc Try.prog w base (fun _ => true) held 28 v d ps) :
    ∃ (p c : Int) (A2 : Option Addr) (c2 : Nat) (core : List (List Sp)) (A3 : Option Addr) (c3 : Nat) (odd : List S70), v = .agg #[.int .i64 p, .int .i64 c, .slice A2 core.length c2, .slice A3 odd.length c3] ∧
      Kd.C (Kd.slice 23 k23) w A2 core.length core ∧ core.length ≤ c2 ∧ Kd.C k70 w A3 odd.length odd ∧ odd.length ≤ c3 ∧ ai3 p c core odd := by
  have hq := okWide_struct (P := Try.prog) (w := w) (r := .any) (base := b0) (t := 28) (v := v) Try.underlying28
  have hq2 := hq hv
  obtain ⟨cs, rfl, hsz⟩ := hq2
  obtain ⟨fuel, h⟩ := h
  obtain ⟨xs, n, _, _, hl, hxs, hf⟩ := DataW.trod_struct Try.underlying28 h
  have e9 : Try.prog.cellsOf 28 = 4 := by kernel_rfl
  rw [e9] at hl
  have hl2 : cs.toList.length = 4 := hl
  clear hl e9
  obtain ⟨l⟩ := cs
  obtain ⟨v0, v1, v2, v3, rfl⟩ := ajk hl2
  have g0 : DataW.trod enc Try.prog w base (fun _ => true) held n 3 (List.take (Try.prog.cellsOf 3) (List.drop 0 [v0, v1, v2, v3])) = xs[0]? := hf 0 _ rfl
  rw [show Try.prog.cellsOf 3 = 1 by kernel_rfl] at g0
  have g1 : DataW.trod enc Try.prog w base (fun _ => true) held n 3 (List.take (Try.prog.cellsOf 3) (List.drop 1 [v0, v1, v2, v3])) = xs[1]? := hf 1 _ rfl
  rw [show Try.prog.cellsOf 3 = 1 by kernel_rfl] at g1
  have g2 : DataW.trod enc Try.prog w base (fun _ => true) held n 25 (List.take (Try.prog.cellsOf 25) (List.drop 2 [v0, v1, v2, v3])) = xs[2]? := hf 2 _ rfl
  rw [show Try.prog.cellsOf 25 = 1 by kernel_rfl] at g2
  have g3 : DataW.trod enc Try.prog w base (fun _ => true) held n 26 (List.take (Try.prog.cellsOf 26) (List.drop 3 [v0, v1, v2, v3])) = xs[3]? := hf 3 _ rfl
  rw [show Try.prog.cellsOf 26 = 1 by kernel_rfl] at g3
  have hx : ∀ j, j < 4 → ∃ y, xs[j]? = some y := fun j hj => ⟨_, List.getElem?_eq_getElem (by rw [hxs]; exact hj)⟩
  obtain ⟨y0, e0⟩ := hx 0 (by omega)
  obtain ⟨y1, e1⟩ := hx 1 (by omega)
  obtain ⟨y2, e2⟩ := hx 2 (by omega)
  obtain ⟨y3, e3⟩ := hx 3 (by omega)
  rw [e0] at g0
  rw [e1] at g1
  rw [e2] at g2
  rw [e3] at g3
  obtain ⟨p, ep, wp⟩ := xR g0
  obtain ⟨c, ec, wc⟩ := xR g1
  obtain ⟨A2, c2, core, e2', l1, l2, l3, l4⟩ := alH g2
  obtain ⟨A3, c3, odd, e3', m1, m2, m3, m4⟩ := anv g3
  have ep' : [v0] = [.int .i64 p] := ep
  have ec' : [v1] = [.int .i64 c] := ec
  have azL : [v2] = [.slice A2 core.length c2] := e2'
  have azM : [v3] = [.slice A3 odd.length c3] := e3'
  injection ep' with ep'
  injection ec' with ec'
  injection azL with azL
  injection azM with azM
  subst ep' ec' azL azM
  exact ⟨p, c, A2, c2, core, A3, c3, odd, rfl, l2, l1, m2, m1, ⟨wp, wc, l3, m3, l4, m4⟩⟩
end
end Go.Proofs.Ytmbmalkpmanaaaa.P
namespace Go.Proofs.Ytmbmalkpmanaaaa.P
set_option linter.unusedVariables false
set_option linter.unusedSimpArgs false
open Go.RowKit Go.Proofs.YtmbmalkpmanaaaaW.aK Go.Proofs.YtmbmalkpmanaaaaW.bM
variable {p c : Int} {core : List (List Sp)} {odd : List Gn}
theorem ai3.mf (f : ai3 p c core odd) : MF core odd := ⟨fun l hl => (f.azK l hl).2, fun g hg => (f.aC2 g hg).2.2⟩
theorem arG {n : Int} (h : fits n) : -9223372036854775808 ≤ n ∧ n ≤ 9223372036854775807 := by
  have := Bool.and_eq_true_iff.1 h
  exact ⟨of_decide_eq_true this.1, of_decide_eq_true this.2⟩
theorem alI (h : FOK p c core odd) {x i : Int} {r : Int × Bool} (s : FrU p c core odd x r) (e : Ex p c core odd i) (h1 : gLo p c core odd i ≤ x) (h2 : x ≤ gHi p c core odd i) : r = (i, true) := by
  obtain ⟨a, b⟩ := r
  cases b with
  | false => exact absurd h2 ((s.n rfl).2 i e)
  | true =>
    obtain ⟨q1, q2, q3⟩ := s.y rfl
    have := q3 i e h2
    rcases Int.lt_trichotomy a i with g | g | g
    · have := h.ord a i g q1.r e.r q1.n e.n
      simp only at q2; omega
    · rw [g]
    · simp only at this; omega
theorem arH (h : FOK p c core odd) {x i : Int} {r : Int × Bool} (s : TlD p c core odd x r) (e : Ex p c core odd i) (h1 : gLo p c core odd i ≤ x) (h2 : x ≤ gHi p c core odd i) : r = (i, true) := by
  obtain ⟨a, b⟩ := r
  cases b with
  | false => exact absurd h1 ((s.n rfl).2 i e)
  | true =>
    obtain ⟨q1, q2, q3⟩ := s.y rfl
    have := q3 i e h1
    rcases Int.lt_trichotomy i a with g | g | g
    · have := h.ord i a g e.r q1.r e.n q1.n
      simp only at q2; omega
    · rw [g]
    · simp only at this; omega
theorem aam (h : SF p c core odd) {x i : Int} (e : Ex p c core odd i) (hx : qE (gT p c core odd i) x = true) : gLo p c core odd i ≤ x ∧ x ≤ gHi p c core odd i := by
  have := (h.alx e).ahl hx
  rw [(aal e.n).2.1, (aal e.n).2.2] at this
  exact this
structure AtS (p c : Int) (core : List (List Sp)) (odd : List Gn) (t : Int) (r : Int × Bool) : Prop where
  y : r.2 = true → Ex p c core odd r.1 ∧ qE (gT p c core odd r.1) t = true
  n : r.2 = false → r.1 = 0 ∧ ∀ m, Ex p c core odd m → qE (gT p c core odd m) t = false
theorem auj (h : FOK p c core odd) (t : Int) : ∃ r, Ev (fun k => jr.f k p c core odd t) r ∧ AtS p c core odd t r := by
  obtain ⟨a, a1, a2⟩ := yV h t
  unfold jr.f
  cases ha : a.2 with
  | false =>
    refine ⟨(0, false), Ev.bind a1 (Ev.no (by rw [ha]; simp) (Ev.now _)), ⟨(fun e => by cases e), fun _ => ⟨rfl, fun m e => ?_⟩⟩⟩
    refine Bool.eq_false_iff.2 fun hm => ?_
    exact (a2.n ha).2 m e (aam h.s e hm).2
  | true =>
    obtain ⟨q1, q2, q3⟩ := a2.y ha
    have g := uF h.s a.1
    rw [h.s.qP q1] at g
    have hs := h.s.alx q1
    have hv := an3 (gT p c core odd a.1) t hs (by have := hs.ac3; omega)
    cases hb : qE (gT p c core odd a.1) t with
    | true =>
      rw [hb] at hv
      refine ⟨(a.1, true), Ev.bind a1 (Ev.yes ha (Ev.bind g (Ev.bind hv (Ev.yes rfl (Ev.now _))))), ⟨fun _ => ⟨q1, hb⟩, (fun e => by cases e)⟩⟩
    | false =>
      rw [hb] at hv
      refine ⟨(0, false), Ev.bind a1 (Ev.yes ha (Ev.bind g (Ev.bind hv (Ev.no (by simp) (Ev.now _))))), ⟨(fun e => by cases e), fun _ => ⟨rfl, fun m e => ?_⟩⟩⟩
      refine Bool.eq_false_iff.2 fun hm => ?_
      obtain ⟨l1, l2⟩ := aam h.s e hm
      have := alI h a2 e l1 l2
      rw [this] at hb
      rw [hb] at hm
      cases hm
theorem at_at (h : FOK p c core odd) {x i : Int} {r : Int × Bool} (s : AtS p c core odd x r) (e : Ex p c core odd i) (hx : qE (gT p c core odd i) x = true) : r = (i, true) := by
  obtain ⟨a, b⟩ := r
  obtain ⟨h1, h2⟩ := aam h.s e hx
  cases b with
  | false => have := (s.n rfl).2 i e; rw [hx] at this; cases this
  | true =>
    obtain ⟨q1, q2⟩ := s.y rfl
    obtain ⟨g1, g2⟩ := aam h.s q1 q2
    simp only at q1 g1 g2
    rcases Int.lt_trichotomy i a with g | g | g
    · have := h.ord i a g e.r q1.r e.n q1.n; omega
    · rw [g]
    · have := h.ord a i g q1.r e.r q1.n e.n; omega
theorem auk (a b : Int) (ha : -9223372036854775808 ≤ a ∧ a ≤ 9223372036854775807) (hb : 1 ≤ b) (hb2 : b ≤ 4611686018427387903) : ∃ r, mM.f a b = some r ∧ 0 ≤ r ∧ r < b := by
  have h1 : Int.tmod a b < b := Int.tmod_lt_of_pos a (by omega)
  have h2 : Int.tmod (-a) b < b := Int.tmod_lt_of_pos (-a) (by omega)
  rw [Int.neg_tmod] at h2
  unfold mM.f
  rw [if_neg (by omega), if_neg (by omega)]
  refine ⟨_, rfl, ?_⟩
  generalize Int.tmod a b = z at *
  rw [eH (by omega) (by omega)]
  have h3 : 0 ≤ z + b := by omega
  exact ⟨Int.tmod_nonneg b h3, Int.tmod_lt_of_pos _ (by omega)⟩
end Go.Proofs.Ytmbmalkpmanaaaa.P

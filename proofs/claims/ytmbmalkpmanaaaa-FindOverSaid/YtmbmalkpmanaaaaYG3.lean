/- Lemmas for laws of chapter 7: what the functions that they reach compute. No condition of its own. -/
import Derived.Shelf.SlLaysF0
import Derived.Test.YtmbmalkpmanaaaaProg
import Derived.Test.YtmbmalkpmanaaaaYG2
import Derived.Shelf.SlSortCmp.WholeK
import Derived.Shelf.SlSortCmp.NoneTotal
namespace Go.Proofs.Ytmbmalkpmanaaaa.P
open Go.Shelf
def aF9 : Go.Shelf.Ren := ⟨fun | 6 => 68 | 15 => 96 | 14 => 95 | 28 => 116 | 29 => 117 | 20 => 108 | 21 => 109 | 22 => 110 | 23 => 111 | 24 => 112 | 25 => 113 | 26 => 114 | 27 => 115 | 46 => 122 | 47 => 123 | 48 => 124 | 49 => 125 | 50 => 126 | 57 => 127 | n => n, fun | 22 => 24 | 24 => 23 | 25 => 87 | 3 => 3 | 39 => 46 | 0 => 0 | 53 => 123 | 55 => 109 | 4 => 4 | 46 => 117 | 45 => 116 | 50 => 42 | 5 => 5 | 9 => 9 | 66 => 130 | 70 => 134 | 76 => 136 | 77 => 137 | n => n, fun | n => n⟩
theorem aGa : Go.Proofs.SlLaysF0.n6 Try.prog aF9 := {
  mixed := by kernel_rfl,
  f6 := ⟨Try.f68.name, by decide, Try.func68.trans (congrArg some (by kernel_rfl))⟩,
  f14 := ⟨Try.f95.name, by decide, Try.func95.trans (congrArg some (by kernel_rfl))⟩,
  f15 := Try.func96.trans (congrArg some (by kernel_rfl)),
  f20 := ⟨Try.f108.name, by decide, Try.func108.trans (congrArg some (by kernel_rfl))⟩,
  f21 := ⟨Try.f109.name, by decide, Try.func109.trans (congrArg some (by kernel_rfl))⟩,
  f22 := ⟨Try.f110.name, by decide, Try.func110.trans (congrArg some (by kernel_rfl))⟩,
  f23 := ⟨Try.f111.name, by decide, Try.func111.trans (congrArg some (by kernel_rfl))⟩,
  f24 := ⟨Try.f112.name, by decide, Try.func112.trans (congrArg some (by kernel_rfl))⟩,
  f25 := ⟨Try.f113.name, by decide, Try.func113.trans (congrArg some (by kernel_rfl))⟩,
  f26 := ⟨Try.f114.name, by decide, Try.func114.trans (congrArg some (by kernel_rfl))⟩,
  f27 := ⟨Try.f115.name, by decide, Try.func115.trans (congrArg some (by kernel_rfl))⟩,
  f28 := Try.func116.trans (congrArg some (by kernel_rfl)),
  f29 := Try.func117.trans (congrArg some (by kernel_rfl)),
  f46 := ⟨Try.f122.name, by decide, Try.func122.trans (congrArg some (by kernel_rfl))⟩,
  f47 := Try.func123.trans (congrArg some (by kernel_rfl)),
  f48 := Try.func124.trans (congrArg some (by kernel_rfl)),
  f49 := ⟨Try.f125.name, by decide, Try.func125.trans (congrArg some (by kernel_rfl))⟩,
  f50 := ⟨Try.f126.name, by decide, Try.func126.trans (congrArg some (by kernel_rfl))⟩,
  f57 := ⟨Try.f127.name, by decide, Try.func127.trans (congrArg some (by kernel_rfl))⟩,
  t0 := Try.underlying0,
  a0 := Try.isAgg0,
  z0 := Try.sizeOf0,
  v0 := Try.zeroValue0,
  t3 := Try.underlying3,
  a3 := Try.isAgg3,
  z3 := Try.sizeOf3,
  v3 := Try.zeroValue3,
  t4 := Try.underlying4,
  a4 := Try.isAgg4,
  z4 := Try.sizeOf4,
  v4 := Try.zeroValue4,
  t5 := Try.underlying5,
  a5 := Try.isAgg5,
  z5 := Try.sizeOf5,
  v5 := Try.zeroValue5,
  t9 := Try.underlying9,
  a9 := Try.isAgg9,
  z9 := Try.sizeOf9,
  v9 := Try.zeroValue9,
  t22 := Try.underlying24,
  a22 := Try.isAgg24,
  z22 := Try.sizeOf24,
  v22 := Try.zeroValue24,
  t25 := Try.underlying87,
  a25 := Try.isAgg87,
  z25 := Try.sizeOf87,
  v25 := Try.zeroValue87,
  t39 := Try.underlying46,
  a39 := Try.isAgg46,
  z39 := Try.sizeOf46,
  v39 := Try.zeroValue46,
  t45 := Try.underlying116,
  a45 := Try.isAgg116,
  z45 := Try.sizeOf116,
  v45 := Try.zeroValue116,
  t46 := Try.underlying117,
  a46 := Try.isAgg117,
  z46 := Try.sizeOf117,
  v46 := Try.zeroValue117,
  t50 := Try.underlying42,
  a50 := Try.isAgg42,
  z50 := Try.sizeOf42,
  v50 := Try.zeroValue42,
  t53 := Try.underlying123,
  a53 := Try.isAgg123,
  z53 := Try.sizeOf123,
  v53 := Try.zeroValue123,
  t55 := Try.underlying109,
  a55 := Try.isAgg109,
  z55 := Try.sizeOf109,
  v55 := Try.zeroValue109,
  t66 := Try.underlying130,
  a66 := Try.isAgg130,
  z66 := Try.sizeOf130,
  v66 := Try.zeroValue130,
  t70 := Try.underlying134,
  a70 := Try.isAgg134,
  z70 := Try.sizeOf134,
  v70 := Try.zeroValue134,
  t76 := Try.underlying136,
  a76 := Try.isAgg136,
  z76 := Try.sizeOf136,
  v76 := Try.zeroValue136,
  t77 := Try.underlying137,
  a77 := Try.isAgg137,
  z77 := Try.sizeOf137,
  v77 := Try.zeroValue137 }
end Go.Proofs.Ytmbmalkpmanaaaa.P
namespace Go.Proofs.Ytmbmalkpmanaaaa.P
set_option linter.unusedVariables false
set_option linter.unusedSimpArgs false
open Go.RowKit Go.Shelf Go.Lib Go.Sort Go.Proofs.YtmbmalkpmanaaaaW.aK Go.Proofs.YtmbmalkpmanaaaaW.bK Go.Proofs.YtmbmalkpmanaaaaW.bM
instance spInh : Inhabited Sp := ⟨⟨0, 0⟩⟩
def aE5 (s : Sp) : List Value := [.int .i64 s.f0, .int .i64 s.f1]
def aG5 (a b : Int) : Int := if a < b then -1 else if b < a then 1 else 0
def aGn (x y : Sp) : Int := aG5 x.f0 y.f0
theorem aI5 (x y : Sp) : ltOf aGn x y = decide (x.f0 < y.f0) := by
  unfold ltOf aGn aG5
  by_cases h1 : x.f0 < y.f0
  · simp [h1]
  · by_cases h2 : y.f0 < x.f0 <;> simp [h1, h2]
theorem aHw : SWO (ltOf aGn) where
  irrefl x := by rw [aI5]; simp
  trans x y z h1 h2 := by rw [aI5] at *; simp at *; omega
  ntrans x y z h1 h2 := by rw [aI5] at *; simp at *; omega
theorem aE8 (a : Int) (W : World) : Calls Try.prog 97 #[.int .i64 a] W fun e w' => e = .returned (.bool false) ∧ w' = W := by
  go_enter Try.func97, Try.ntmps97
  go_wp2
  go_ret
  exact ⟨rfl, rfl⟩
theorem aFO (a b : Int) (W : World) : Calls Try.prog 70 #[.int .i64 a, .int .i64 b] W fun e w' => e = .returned (.int .i64 (aG5 a b)) ∧ w' = W := by
  by_cases h1 : a < b
  · have hc := Lib.hid (show aG5 a b = -1 by simp [aG5, h1])
    have d1 : decide (a < b) = true := decide_eq_true h1
    go_enter Try.func70, Try.ntmps70
    go_wp2_with (go_at_call 97; refine (aE8 _ _).mono ?_; rintro e w' ⟨rfl, rfl⟩)
    go_ret
    exact ⟨by rw [hc.out]; rfl, rfl⟩
  · have d1 : decide (a < b) = false := decide_eq_false h1
    by_cases h2 : b < a
    · have hc := Lib.hid (show aG5 a b = 1 by simp [aG5, h1, h2])
      have d2 : decide (b < a) = true := decide_eq_true h2
      clear h1
      go_enter Try.func70, Try.ntmps70
      go_wp2_with (go_at_call 97; refine (aE8 _ _).mono ?_; rintro e w' ⟨rfl, rfl⟩)
      go_ret
      exact ⟨by rw [hc.out]; rfl, rfl⟩
    · have hc := Lib.hid (show aG5 a b = 0 by simp [aG5, h1, h2])
      have d2 : decide (b < a) = false := decide_eq_false h2
      clear h1 h2
      go_enter Try.func70, Try.ntmps70
      go_wp2_with (go_at_call 97; refine (aE8 _ _).mono ?_; rintro e w' ⟨rfl, rfl⟩)
      go_ret
      exact ⟨by rw [hc.out]; rfl, rfl⟩
set_option maxHeartbeats 1000000 in
theorem aGc (x y : Sp) (W : World) : Calls Try.prog 69 #[.agg #[.int .i64 x.f0, .int .i64 x.f1], .agg #[.int .i64 y.f0, .int .i64 y.f1]] W fun e w' => e = .returned (.int .i64 (aGn x y)) ∧ ∃ q os', w' = grow (W.drewN q) os' := by
  have hcon := fun W' => aFO x.f0 y.f0 W'
  change ∀ W', Calls Try.prog 70 _ _ _ at hcon
  unfold aGn
  generalize aG5 x.f0 y.f0 = r at hcon ⊢
  go_enter Try.func69, Try.ntmps69
  go_wp2_with (go_at_call 70; refine (hcon _).mono ?_; rintro e w' ⟨rfl, rfl⟩)
  go_ret
  exact ⟨rfl, 0, _, by rw [alloc_eq_grow, alloc_eq_grow, grow_grow]; rfl⟩
theorem aGA (blk off size : Nat) (w : World) : CmpLays Try.prog 69 #[] aE5 2 aGn blk off size w :=
  fun _ _ _ _ x y => aGc x y _
def aEH (l : List Sp) : List Sp := (pdq (ltOf aGn) l.toArray 0 l.length (Lib.bitLen l.length) true true).toList
def aFo.f (l : List Sp) : Option (List Sp) := if l.length ≤ many then some (aEH l) else none
theorem aE1 (l : List Sp) : (aEH l).Perm l := by
  have h := (pdq_sorts (ltOf aGn) aHw l.toArray 0 l.length (Lib.bitLen l.length) true true (Nat.zero_le _) (by simp) (Or.inl rfl)).1
  have h2 := h.2.2
  have e1 : (pdq (ltOf aGn) l.toArray 0 l.length (Lib.bitLen l.length) true true).extract 0 l.length = pdq (ltOf aGn) l.toArray 0 l.length (Lib.bitLen l.length) true true := by
    apply Array.ext'
    have := h.1
    simp at this
    rw [Array.toList_extract, List.extract_eq_take_drop]
    simp only [Nat.sub_zero, List.drop_zero]
    exact List.take_of_length_le (by simp [this])
  rw [e1] at h2
  simpa [aEH] using h2
theorem aEM (l : List Sp) : (aEH l).length = l.length := (aE1 l).length_eq
theorem aFP (l : List Sp) : (aEH l).Pairwise fun x y => x.f0 ≤ y.f0 := by
  have h := (pdq_sorts (ltOf aGn) aHw l.toArray 0 l.length (Lib.bitLen l.length) true true (Nat.zero_le _) (by simp) (Or.inl rfl))
  have hsz : (pdq (ltOf aGn) l.toArray 0 l.length (Lib.bitLen l.length) true true).size = l.length := by simpa using h.1.1
  rw [List.pairwise_iff_getElem]
  intro i j hi hj hij
  have := h.2 i j (Nat.zero_le _) hij (by rw [aEM] at hj; exact hj)
  rw [aI5] at this
  simp only [decide_eq_false_iff_not, Int.not_lt] at this
  rw [aEM] at hi hj
  rw [getElem!_pos _ i (by omega), getElem!_pos _ j (by omega)] at this
  simpa [aEH] using this
theorem aGt {w : World} {base : Nat} {ok : Nat → Prop} {l : List Sp} {inner : List Value} (h : kG (k23.M w base ok) 2 l inner) : inner = aaD l := by
  induction l generalizing inner with
  | nil => exact List.eq_nil_of_length_eq_zero (by simpa using h.1)
  | cons s l ih =>
    obtain ⟨hl, hp⟩ := h
    match inner, hl with
    | a :: b :: t, hl =>
      have h0 := aFB (hp 0 s rfl)
      simp at h0
      obtain ⟨rfl, rfl⟩ := h0
      have := ih (inner := t) ⟨by simp at hl; omega, fun j p hj => by
        have := hp (j + 1) p (by simpa using hj)
        rwa [show (j + 1) * 2 = j * 2 + 1 + 1 by omega, List.drop_succ_cons, List.drop_succ_cons] at this⟩
      rw [this]; rfl
    | [], hl => simp at hl
    | [_], hl => simp at hl; omega
theorem aFC (l : List Sp) (j : Nat) (h : j < l.length * 2) : (aaD l)[j]? = some ((aE5 l.toArray[j / 2]!)[j % 2]!) := by
  induction l generalizing j with
  | nil => simp at h
  | cons s l ih =>
    match j with
    | 0 => rfl
    | 1 => rfl
    | j + 2 =>
      have := ih j (by simp at h; omega)
      rw [show (j + 2) / 2 = j / 2 + 1 by omega, show (j + 2) % 2 = j % 2 by omega]
      have e : (aaD (s :: l))[j + 2]? = (aaD l)[j]? := by simp [aaD]
      rw [e, this]
      have hl : j / 2 < l.length := by simp at h; omega
      have e2 : (s :: l).toArray[j / 2 + 1]! = l.toArray[j / 2]! := by
        rw [getElem!_pos _ _ (by simp; omega), getElem!_pos _ _ (by simpa using hl)]; simp
      rw [e2]
theorem aFQ (cur : Array Value) (l : List Sp) (h : l.length * 2 ≤ cur.size) :
    (putCells id 0 (flatK aE5 2 l.toArray) cur).size = cur.size ∧ (putCells id 0 (flatK aE5 2 l.toArray) cur).toList.take (l.length * 2) = aaD l := by
  refine ⟨by simp [putCells], ?_⟩
  apply List.ext_getElem?
  intro j
  by_cases hj : j < l.length * 2
  · rw [List.getElem?_take_of_lt hj, aFC l j hj]
    have hc : j < cur.size := by omega
    simp only [putCells, Array.getElem?_toList, Array.getElem?_mapIdx, Array.getElem?_eq_getElem hc, Option.map_some, size_flatK, Nat.zero_le, true_and, Nat.zero_add, List.size_toArray, id, Nat.sub_zero]
    rw [if_pos hj, get_flatK _ _ _ _ (by simpa using hj)]
  · rw [List.getElem?_eq_none (by simp [putCells]; omega), List.getElem?_eq_none (by rw [aE7]; omega)]
set_option maxHeartbeats 1000000 in
theorem aFo.calls (P0_ : Nat → Prop) (aGB : Value) (l0 : List Sp) (r : List Sp) (w0 w : World) (hB : Below w0.heap.size w0 w) (ho0 : Kd.R k23 23 w w0.heap.size P0_ aGB l0) (h : aFo.f l0 = some r) :
    Calls Try.prog 68 #[aGB, .func (.func 69) #[] #[]] w fun e w' => e = .returned (.tuple #[]) ∧ Kd.R k23 23 w' w0.heap.size (fun k_ => (P0_ k_ ∨ w.heap.size ≤ k_)) aGB r ∧ Below w0.heap.size w0 w' ∧ Kept w w' (fun k_ => P0_ k_) := by
  unfold aFo.f at h
  by_cases hm : l0.length ≤ many
  · rw [if_pos hm] at h
    cases h
    obtain ⟨hP, inner, how, aJ1⟩ := ho0
    obtain rfl := aGt aJ1
    have hk2 : k23.sz = 2 := rfl
    rw [hk2] at how
    rcases how.2 with ⟨rfl, hn⟩ | ⟨g, cap, cur, rfl, hge, hg, hnc, hcm, hcs, htk⟩
    · have hl : l0 = [] := List.eq_nil_of_length_eq_zero hn
      subst hl
      refine (AnyF.slices_SortFunc_none aGa none 0 (.func (.func 69) #[] #[]) w).mono ?_
      rintro e w' ⟨rfl, rfl⟩
      have hs : aEH [] = [] := List.eq_nil_of_length_eq_zero (by rw [aEM]; rfl)
      rw [hs]
      exact ⟨rfl, Kd.wP _ _ _ _ _, hB, Kept.refl _ _⟩
    · by_cases h0 : l0.length = 0
      · have hl : l0 = [] := List.eq_nil_of_length_eq_zero h0
        subst hl
        refine (AnyF.slices_SortFunc_none aGa (some ⟨g, 0, none⟩) cap (.func (.func 69) #[] #[]) w).mono ?_
        rintro e w' ⟨rfl, rfl⟩
        have hs : aEH [] = [] := List.eq_nil_of_length_eq_zero (by rw [aEM]; rfl)
        rw [hs]
        exact ⟨rfl, ⟨fun k hk => .inl (hP k hk), [], how, kG.none _ _⟩, hB, Kept.refl _ _⟩
      · have aLf : g < w.heap.size := (Array.getElem?_eq_some_iff.1 hg).1
        have hH : HoldsK aE5 2 w g 0 l0.toArray := by
          intro j hj
          have hj' : j < l0.length * 2 := by simpa using hj
          have hx : (cur.toList)[j]? = some ((aE5 l0.toArray[j / 2]!)[j % 2]!) := by
            have := aFC l0 j hj'
            rw [← htk, List.getElem?_take_of_lt hj'] at this
            exact this
          refine ⟨?_, by simp [World.frozen?, hg]⟩
          rw [get_flatK _ _ _ _ (by simpa using hj')]
          simp only [World.cell?, hg, Nat.zero_add, id]
          simpa using hx
        have hcon := AnyQ.slices_SortFunc_eq aGa 2 Try.isAgg23 Try.sizeOf23 aE5 (fun _ => rfl) (fun x v hv => by simp [aE5] at hv; rcases hv with rfl | rfl <;> rfl) aGn aHw 69 #[] g 0 cap l0.toArray w (enters_of Try.func69 (by kernel_rfl) rfl) (aGA g 0 _ w) hH aLf (by unfold many at hm; simp; omega)
        change Calls Try.prog 68 _ _ _ at hcon
        simp only [List.size_toArray] at hcon
        refine hcon.mono ?_
        rintro e w' ⟨rfl, n, os, rfl⟩
        have hlen := aEM l0
        have hd : pdq (ltOf aGn) l0.toArray 0 l0.length (Lib.bitLen l0.length) true true = (aEH l0).toArray := by simp [aEH]
        rw [hd]
        have hgN : (putRowK aE5 2 (Go.Sort.ahead w n) g 0 (aEH l0).toArray).heap[g]? = some (.cells (putCells id 0 (flatK aE5 2 (aEH l0).toArray) cur) 23 (0, 0)) := by
          simp only [putRowK, putRow, mapBlock, heap_ahead]
          rw [Array.getElem?_modify, if_pos rfl, hg]; rfl
        have hoth : ∀ k, k ≠ g → (putRowK aE5 2 (Go.Sort.ahead w n) g 0 (aEH l0).toArray).heap[k]? = w.heap[k]? := by
          intro k hk
          simp only [putRowK, putRow, mapBlock, heap_ahead]
          rw [Array.getElem?_modify, if_neg (fun e => hk e.symm)]
        have hsz : (putRowK aE5 2 (Go.Sort.ahead w n) g 0 (aEH l0).toArray).heap.size = w.heap.size := by simp [putRowK]
        have hp1 : (sortWorldK aE5 2 w g 0 n (aEH l0).toArray os).heap[g]? = some (.cells (putCells id 0 (flatK aE5 2 (aEH l0).toArray) cur) 23 (0, 0)) := by
          unfold sortWorldK; rw [heap_grow_old _ _ (by rw [hsz]; exact aLf)]; exact hgN
        have hp2 : ∀ k, k < w.heap.size → k ≠ g → (sortWorldK aE5 2 w g 0 n (aEH l0).toArray os).heap[k]? = w.heap[k]? := by
          intro k hk hne; unfold sortWorldK; rw [heap_grow_old _ _ (by rw [hsz]; exact hk)]; exact hoth k hne
        have hp3 : w.heap.size ≤ (sortWorldK aE5 2 w g 0 n (aEH l0).toArray os).heap.size := by unfold sortWorldK; rw [size_grow, hsz]; omega
        obtain ⟨q1, q2⟩ := aFQ cur (aEH l0) (by rw [hlen, hcs]; omega)
        refine ⟨rfl, ⟨fun k hk => .inl (hP k hk), aaD (aEH l0), ⟨aE7 _, .inr ⟨g, cap, _, by rw [hlen], hge, hp1, by rw [hlen]; exact hnc, hcm, by rw [q1, hcs]; rfl, q2⟩⟩, aoD _ _ _ _⟩, ?_, hp3, fun k hk hn => hp2 k hk (fun e => hn (hP k (by rw [e]; rfl)))⟩
        exact ⟨hB.os, hB.tape, hB.output, Nat.le_trans hB.size hp3, fun k hk => (hp2 k (Nat.lt_of_lt_of_le hk hB.size) (by omega)).trans (hB.block k hk)⟩
  · rw [if_neg hm] at h; cases h
end Go.Proofs.Ytmbmalkpmanaaaa.P

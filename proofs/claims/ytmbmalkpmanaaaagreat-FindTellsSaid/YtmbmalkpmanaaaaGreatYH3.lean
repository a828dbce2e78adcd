/- Lemmas for laws of chapter 7: what the functions that they reach compute. No condition of its own. -/
import Derived.Shelf.SlLaysF0
import Derived.Test.YtmbmalkpmanaaaaGreatProg
import Derived.Test.YtmbmalkpmanaaaaGreatYH2
import Derived.Shelf.SlSortCmp.WholeK
import Derived.Shelf.SlSortCmp.NoneTotal
namespace Go.Proofs.YtmbmalkpmanaaaaGreat.P
open Go.Shelf
def yE:Go.Shelf.Ren:=⟨fun | 6=>34 | 15=>64 | 14=>63 | 28=>85 | 29=>86 | 20=>77 | 21=>78 | 22=>79 | 23=>80 | 24=>81 | 25=>82 | 26=>83 | 27=>84 | 46=>97 | 47=>98 | 48=>99 | 49=>100 | 50=>101 | 57=>105 | n=>n,fun | 22=>27 | 24=>38 | 25=>66 | 3=>3 | 39=>87 | 0=>0 | 53=>106 | 55=>108 | 4=>4 | 46=>100 | 45=>99 | 50=>31 | 5=>5 | 9=>9 | 66=>118 | 70=>122 | 76=>130 | 77=>94 | n=>n,fun | n=>n⟩
theorem yF:Go.Proofs.SlLaysF0.n6 Tryz.prog yE:={
  mixed:=by kernel_rfl,
  f6:=⟨Tryz.f34.name,by decide,Tryz.func34.trans (congrArg some (by kernel_rfl))⟩,
  f14:=⟨Tryz.f63.name,by decide,Tryz.func63.trans (congrArg some (by kernel_rfl))⟩,
  f15:=Tryz.func64.trans (congrArg some (by kernel_rfl)),
  f20:=⟨Tryz.f77.name,by decide,Tryz.func77.trans (congrArg some (by kernel_rfl))⟩,
  f21:=⟨Tryz.f78.name,by decide,Tryz.func78.trans (congrArg some (by kernel_rfl))⟩,
  f22:=⟨Tryz.f79.name,by decide,Tryz.func79.trans (congrArg some (by kernel_rfl))⟩,
  f23:=⟨Tryz.f80.name,by decide,Tryz.func80.trans (congrArg some (by kernel_rfl))⟩,
  f24:=⟨Tryz.f81.name,by decide,Tryz.func81.trans (congrArg some (by kernel_rfl))⟩,
  f25:=⟨Tryz.f82.name,by decide,Tryz.func82.trans (congrArg some (by kernel_rfl))⟩,
  f26:=⟨Tryz.f83.name,by decide,Tryz.func83.trans (congrArg some (by kernel_rfl))⟩,
  f27:=⟨Tryz.f84.name,by decide,Tryz.func84.trans (congrArg some (by kernel_rfl))⟩,
  f28:=Tryz.func85.trans (congrArg some (by kernel_rfl)),
  f29:=Tryz.func86.trans (congrArg some (by kernel_rfl)),
  f46:=⟨Tryz.f97.name,by decide,Tryz.func97.trans (congrArg some (by kernel_rfl))⟩,
  f47:=Tryz.func98.trans (congrArg some (by kernel_rfl)),
  f48:=Tryz.func99.trans (congrArg some (by kernel_rfl)),
  f49:=⟨Tryz.f100.name,by decide,Tryz.func100.trans (congrArg some (by kernel_rfl))⟩,
  f50:=⟨Tryz.f101.name,by decide,Tryz.func101.trans (congrArg some (by kernel_rfl))⟩,
  f57:=⟨Tryz.f105.name,by decide,Tryz.func105.trans (congrArg some (by kernel_rfl))⟩,
  t0:=Tryz.underlying0,
  a0:=Tryz.isAgg0,
  z0:=Tryz.sizeOf0,
  v0:=Tryz.zeroValue0,
  t3:=Tryz.underlying3,
  a3:=Tryz.isAgg3,
  z3:=Tryz.sizeOf3,
  v3:=Tryz.zeroValue3,
  t4:=Tryz.underlying4,
  a4:=Tryz.isAgg4,
  z4:=Tryz.sizeOf4,
  v4:=Tryz.zeroValue4,
  t5:=Tryz.underlying5,
  a5:=Tryz.isAgg5,
  z5:=Tryz.sizeOf5,
  v5:=Tryz.zeroValue5,
  t9:=Tryz.underlying9,
  a9:=Tryz.isAgg9,
  z9:=Tryz.sizeOf9,
  v9:=Tryz.zeroValue9,
  t22:=Tryz.underlying27,
  a22:=Tryz.isAgg27,
  z22:=Tryz.sizeOf27,
  v22:=Tryz.zeroValue27,
  t25:=Tryz.underlying66,
  a25:=Tryz.isAgg66,
  z25:=Tryz.sizeOf66,
  v25:=Tryz.zeroValue66,
  t39:=Tryz.underlying87,
  a39:=Tryz.isAgg87,
  z39:=Tryz.sizeOf87,
  v39:=Tryz.zeroValue87,
  t45:=Tryz.underlying99,
  a45:=Tryz.isAgg99,
  z45:=Tryz.sizeOf99,
  v45:=Tryz.zeroValue99,
  t46:=Tryz.underlying100,
  a46:=Tryz.isAgg100,
  z46:=Tryz.sizeOf100,
  v46:=Tryz.zeroValue100,
  t50:=Tryz.underlying31,
  a50:=Tryz.isAgg31,
  z50:=Tryz.sizeOf31,
  v50:=Tryz.zeroValue31,
  t53:=Tryz.underlying106,
  a53:=Tryz.isAgg106,
  z53:=Tryz.sizeOf106,
  v53:=Tryz.zeroValue106,
  t55:=Tryz.underlying108,
  a55:=Tryz.isAgg108,
  z55:=Tryz.sizeOf108,
  v55:=Tryz.zeroValue108,
  t66:=Tryz.underlying118,
  a66:=Tryz.isAgg118,
  z66:=Tryz.sizeOf118,
  v66:=Tryz.zeroValue118,
  t70:=Tryz.underlying122,
  a70:=Tryz.isAgg122,
  z70:=Tryz.sizeOf122,
  v70:=Tryz.zeroValue122,
  t76:=Tryz.underlying130,
  a76:=Tryz.isAgg130,
  z76:=Tryz.sizeOf130,
  v76:=Tryz.zeroValue130,
  t77:=Tryz.underlying94,
  a77:=Tryz.isAgg94,
  z77:=Tryz.sizeOf94,
  v77:=Tryz.zeroValue94 }
end Go.Proofs.YtmbmalkpmanaaaaGreat.P
namespace Go.Proofs.YtmbmalkpmanaaaaGreat.P
set_option linter.unusedVariables false
set_option linter.unusedSimpArgs false
open Go.RowKit Go.Shelf Go.Lib Go.Sort Go.Proofs.YtmbmalkpmanaaaaGreatW.iD Go.Proofs.YtmbmalkpmanaaaaGreatW.jA Go.Proofs.YtmbmalkpmanaaaaGreatW.jw
instance spInh:Inhabited Sp:=⟨⟨0,0⟩⟩
def rD (s:Sp):List Value:=[.int .i64 s.f0,.int .i64 s.f1]
def abL (a b:Int):Int:=if a<b then -1 else if b<a then 1 else 0
def zy (x y:Sp):Int:=abL x.f0 y.f0
theorem aeN (x y:Sp):ltOf zy x y=decide (x.f0<y.f0):=by
  unfold ltOf zy abL;by_cases h1:x.f0<y.f0
  · simp [h1]
  · by_cases h2:y.f0<x.f0 <;> simp [h1,h2]
theorem adr:SWO (ltOf zy) where
  irrefl x:=by rw [aeN];simp
  trans x y z h1 h2:=by rw [aeN] at *;simp at *;omega
  ntrans x y z h1 h2:=by rw [aeN] at *;simp at *;omega
theorem rM (a:Int) (W:World):Calls Tryz.prog 65 #[.int .i64 a] W fun e w'=>e=.returned (.bool false)∧w'=W:=by
  go_enter Tryz.func65,Tryz.ntmps65
  go_wp2
  go_ret
  exact ⟨rfl,rfl⟩
theorem wE (a b:Int) (W:World):Calls Tryz.prog 36 #[.int .i64 a,.int .i64 b] W fun e w'=>e=.returned (.int .i64 (abL a b))∧w'=W:=by
  by_cases h1:a<b
  · have hc:=Lib.hid (show abL a b = -1 by simp [abL,h1])
    have d1:decide (a<b)=true:=decide_eq_true h1;go_enter Tryz.func36,Tryz.ntmps36;go_wp2_with (go_at_call 65;refine (rM _ _).mono ?_;rintro e w' ⟨rfl,rfl⟩);go_ret;exact ⟨by rw [hc.out];rfl,rfl⟩
  · have d1:decide (a<b)=false:=decide_eq_false h1
    by_cases h2:b<a
    · have hc:=Lib.hid (show abL a b=1 by simp [abL,h1,h2])
      have d2:decide (b<a)=true:=decide_eq_true h2;clear h1;go_enter Tryz.func36,Tryz.ntmps36;go_wp2_with (go_at_call 65;refine (rM _ _).mono ?_;rintro e w' ⟨rfl,rfl⟩);go_ret;exact ⟨by rw [hc.out];rfl,rfl⟩
    · have hc:=Lib.hid (show abL a b=0 by simp [abL,h1,h2])
      have d2:decide (b<a)=false:=decide_eq_false h2;clear h1 h2;go_enter Tryz.func36,Tryz.ntmps36;go_wp2_with (go_at_call 65;refine (rM _ _).mono ?_;rintro e w' ⟨rfl,rfl⟩);go_ret;exact ⟨by rw [hc.out];rfl,rfl⟩
set_option maxHeartbeats 1000000 in
theorem yH (x y:Sp) (W:World):Calls Tryz.prog 35 #[.agg #[.int .i64 x.f0,.int .i64 x.f1],.agg #[.int .i64 y.f0,.int .i64 y.f1]] W fun e w'=>e=.returned (.int .i64 (zy x y))∧∃ q os',w'=grow (W.drewN q) os':=by
  have hcon:=fun W'=>wE x.f0 y.f0 W';change ∀ W',Calls Tryz.prog 36 _ _ _ at hcon;unfold zy;generalize abL x.f0 y.f0=r at hcon ⊢;go_enter Tryz.func35,Tryz.ntmps35;go_wp2_with (go_at_call 36;refine (hcon _).mono ?_;rintro e w' ⟨rfl,rfl⟩);go_ret;exact ⟨rfl,0,_,by rw [alloc_eq_grow,alloc_eq_grow,grow_grow];rfl⟩
theorem aaX (blk off size:Nat) (w:World):CmpLays Tryz.prog 35 #[] rD 2 zy blk off size w :=
  fun _ _ _ _ x y=>yH x y _
def ni (l:List Sp):List Sp:=(pdq (ltOf zy) l.toArray 0 l.length (Lib.bitLen l.length) true true).toList
def tL.f (l:List Sp):Option (List Sp):=if l.length≤many then some (ni l) else none
theorem qH (l:List Sp):(ni l).Perm l:=by
  have h:=(pdq_sorts (ltOf zy) adr l.toArray 0 l.length (Lib.bitLen l.length) true true (Nat.zero_le _) (by simp) (Or.inl rfl)).1;have h2:=h.2.2;have e1:(pdq (ltOf zy) l.toArray 0 l.length (Lib.bitLen l.length) true true).extract 0 l.length=pdq (ltOf zy) l.toArray 0 l.length (Lib.bitLen l.length) true true:=by
    apply Array.ext'
    have:=h.1;simp at this;rw [Array.toList_extract,List.extract_eq_take_drop];simp only [Nat.sub_zero,List.drop_zero];exact List.take_of_length_le (by simp [this])
  rw [e1] at h2;simpa [ni] using h2
theorem oF (l:List Sp):(ni l).length=l.length:=(qH l).length_eq
theorem wF (l:List Sp):(ni l).Pairwise fun x y=>x.f0≤y.f0:=by
  have h:=(pdq_sorts (ltOf zy) adr l.toArray 0 l.length (Lib.bitLen l.length) true true (Nat.zero_le _) (by simp) (Or.inl rfl));have hsz:(pdq (ltOf zy) l.toArray 0 l.length (Lib.bitLen l.length) true true).size=l.length:=by simpa using h.1.1
  rw [List.pairwise_iff_getElem];intro i j hi hj hij;have:=h.2 i j (Nat.zero_le _) hij (by rw [oF] at hj;exact hj);rw [aeN] at this;simp only [decide_eq_false_iff_not,Int.not_lt] at this;rw [oF] at hi hj;rw [getElem!_pos _ i (by omega),getElem!_pos _ j (by omega)] at this;simpa [ni] using this
theorem z8 {w:World} {base:Nat} {ok:Nat→Prop} {l:List Sp} {inner:List Value} (h:mI (k38.M w base ok) 2 l inner):inner=lK l:=by
  induction l generalizing inner with
  | nil=>exact List.eq_nil_of_length_eq_zero (by simpa using h.1)
  | cons s l ih =>
    obtain ⟨hl,hp⟩:=h
    match inner,hl with
    | a :: b :: t,hl =>
      have h0:=qR (hp 0 s rfl);simp at h0;obtain ⟨rfl,rfl⟩:=h0;have:=ih (inner:=t) ⟨by simp at hl;omega,fun j p hj=>by
        have:=hp (j+1) p (by simpa using hj);rwa [show (j+1)*2=j*2+1+1 by omega,List.drop_succ_cons,List.drop_succ_cons] at this⟩
      rw [this];rfl
    | [],hl=>simp at hl
    | [_],hl=>simp at hl;omega
theorem uQ (l:List Sp) (j:Nat) (h:j<l.length*2):(lK l)[j]? = some ((rD l.toArray[j / 2]!)[j % 2]!):=by
  induction l generalizing j with
  | nil=>simp at h
  | cons s l ih =>
    match j with
    | 0=>rfl
    | 1=>rfl
    | j+2 =>
      have:=ih j (by simp at h;omega);rw [show (j+2) / 2=j / 2+1 by omega,show (j+2) % 2=j % 2 by omega];have e:(lK (s :: l))[j+2]? = (lK l)[j]? := by simp [lK]
      rw [e,this];have hl:j / 2<l.length:=by simp at h;omega
      have e2:(s :: l).toArray[j / 2+1]! = l.toArray[j / 2]! := by
        rw [getElem!_pos _ _ (by simp;omega),getElem!_pos _ _ (by simpa using hl)];simp
      rw [e2]
theorem wG (cur:Array Value) (l:List Sp) (h:l.length*2≤cur.size) :
    (putCells id 0 (flatK rD 2 l.toArray) cur).size=cur.size∧(putCells id 0 (flatK rD 2 l.toArray) cur).toList.take (l.length*2)=lK l:=by
  refine ⟨by simp [putCells],?_⟩;apply List.ext_getElem?;intro j;by_cases hj:j<l.length*2
  · rw [List.getElem?_take_of_lt hj,uQ l j hj]
    have hc:j<cur.size:=by omega
    simp only [putCells,Array.getElem?_toList,Array.getElem?_mapIdx,Array.getElem?_eq_getElem hc,Option.map_some,size_flatK,Nat.zero_le,true_and,Nat.zero_add,List.size_toArray,id,Nat.sub_zero];rw [if_pos hj,get_flatK _ _ _ _ (by simpa using hj)]
  · rw [List.getElem?_eq_none (by simp [putCells];omega),List.getElem?_eq_none (by rw [qG];omega)]
set_option maxHeartbeats 1000000 in
theorem tL.calls (ab:Nat→Prop) (aa:Value) (l0:List Sp) (r:List Sp) (w0 w:World) (hB:Below w0.heap.size w0 w) (ho0:Kd.R k38 38 w w0.heap.size ab aa l0) (h:tL.f l0=some r) :
    Calls Tryz.prog 34 #[aa,.func (.func 35) #[] #[]] w fun e w'=>e=.returned (.tuple #[])∧Kd.R k38 38 w' w0.heap.size (fun k_=>(ab k_∨w.heap.size≤k_)) aa r∧Below w0.heap.size w0 w'∧Kept w w' (fun k_=>ab k_):=by
  unfold tL.f at h;by_cases hm:l0.length≤many
  · rw [if_pos hm] at h
    cases h
    obtain ⟨hP,inner,how,ae⟩:=ho0;obtain rfl:=z8 ae;have hk2:k38.sz=2:=rfl;rw [hk2] at how;rcases how.2 with ⟨rfl,hn⟩ | ⟨g,cap,cur,rfl,hge,hg,hnc,hcm,hcs,htk⟩
    · have hl:l0=[]:=List.eq_nil_of_length_eq_zero hn
      subst hl;refine (AnyF.slices_SortFunc_none yF none 0 (.func (.func 35) #[] #[]) w).mono ?_;rintro e w' ⟨rfl,rfl⟩;have hs:ni []=[]:=List.eq_nil_of_length_eq_zero (by rw [oF];rfl);rw [hs];exact ⟨rfl,Kd.nM _ _ _ _ _,hB,Kept.refl _ _⟩
    · by_cases h0:l0.length=0
      · have hl:l0=[]:=List.eq_nil_of_length_eq_zero h0
        subst hl;refine (AnyF.slices_SortFunc_none yF (some ⟨g,0,none⟩) cap (.func (.func 35) #[] #[]) w).mono ?_;rintro e w' ⟨rfl,rfl⟩;have hs:ni []=[]:=List.eq_nil_of_length_eq_zero (by rw [oF];rfl);rw [hs];exact ⟨rfl,⟨fun k hk=>.inl (hP k hk),[],how,mI.none _ _⟩,hB,Kept.refl _ _⟩
      · have ac:g<w.heap.size:=(Array.getElem?_eq_some_iff.1 hg).1
        have hH:HoldsK rD 2 w g 0 l0.toArray:=by
          intro j hj;have hj':j<l0.length*2:=by simpa using hj
          have hx:(cur.toList)[j]? = some ((rD l0.toArray[j / 2]!)[j % 2]!):=by
            have:=uQ l0 j hj';rw [← htk,List.getElem?_take_of_lt hj'] at this;exact this
          refine ⟨?_,by simp [World.frozen?,hg]⟩;rw [get_flatK _ _ _ _ (by simpa using hj')];simp only [World.cell?,hg,Nat.zero_add,id];simpa using hx
        have hcon:=AnyQ.slices_SortFunc_eq yF 2 Tryz.isAgg38 Tryz.sizeOf38 rD (fun _=>rfl) (fun x v hv=>by simp [rD] at hv;rcases hv with rfl | rfl <;> rfl) zy adr 35 #[] g 0 cap l0.toArray w (enters_of Tryz.func35 (by kernel_rfl) rfl) (aaX g 0 _ w) hH ac (by unfold many at hm;simp;omega);change Calls Tryz.prog 34 _ _ _ at hcon;simp only [List.size_toArray] at hcon;refine hcon.mono ?_;rintro e w' ⟨rfl,n,os,rfl⟩;have hlen:=oF l0;have hd:pdq (ltOf zy) l0.toArray 0 l0.length (Lib.bitLen l0.length) true true=(ni l0).toArray:=by simp [ni]
        rw [hd];have hgN:(putRowK rD 2 (Go.Sort.ahead w n) g 0 (ni l0).toArray).heap[g]? = some (.cells (putCells id 0 (flatK rD 2 (ni l0).toArray) cur) 38 (0,0)):=by
          simp only [putRowK,putRow,mapBlock,heap_ahead];rw [Array.getElem?_modify,if_pos rfl,hg];rfl
        have hoth:∀ k,k≠g→(putRowK rD 2 (Go.Sort.ahead w n) g 0 (ni l0).toArray).heap[k]? = w.heap[k]? := by
          intro k hk;simp only [putRowK,putRow,mapBlock,heap_ahead];rw [Array.getElem?_modify,if_neg (fun e=>hk e.symm)]
        have hsz:(putRowK rD 2 (Go.Sort.ahead w n) g 0 (ni l0).toArray).heap.size=w.heap.size:=by simp [putRowK]
        have hp1:(sortWorldK rD 2 w g 0 n (ni l0).toArray os).heap[g]? = some (.cells (putCells id 0 (flatK rD 2 (ni l0).toArray) cur) 38 (0,0)):=by
          unfold sortWorldK;rw [heap_grow_old _ _ (by rw [hsz];exact ac)];exact hgN
        have hp2:∀ k,k<w.heap.size→k≠g→(sortWorldK rD 2 w g 0 n (ni l0).toArray os).heap[k]? = w.heap[k]? := by
          intro k hk hne;unfold sortWorldK;rw [heap_grow_old _ _ (by rw [hsz];exact hk)];exact hoth k hne
        have hp3:w.heap.size≤(sortWorldK rD 2 w g 0 n (ni l0).toArray os).heap.size:=by unfold sortWorldK;rw [size_grow,hsz];omega
        obtain ⟨q1,q2⟩:=wG cur (ni l0) (by rw [hlen,hcs];omega);refine ⟨rfl,⟨fun k hk=>.inl (hP k hk),lK (ni l0),⟨qG _,.inr ⟨g,cap,_,by rw [hlen],hge,hp1,by rw [hlen];exact hnc,hcm,by rw [q1,hcs];rfl,q2⟩⟩,aaV _ _ _ _⟩,?_,hp3,fun k hk hn=>hp2 k hk (fun e=>hn (hP k (by rw [e];rfl)))⟩;exact ⟨hB.os,hB.tape,hB.output,Nat.le_trans hB.size hp3,fun k hk=>(hp2 k (Nat.lt_of_lt_of_le hk hB.size) (by omega)).trans (hB.block k hk)⟩
  · rw [if_neg hm] at h;cases h
end Go.Proofs.YtmbmalkpmanaaaaGreat.P

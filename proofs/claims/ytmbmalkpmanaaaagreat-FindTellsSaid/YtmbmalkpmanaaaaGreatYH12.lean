/- Lemmas for laws of chapter 7: what the functions that they reach compute. No condition of its own. -/
import Derived.Test.YtmbmalkpmanaaaaGreatYH11
import Derived.Test.YtmbmalkpmanaaaaGreatYH2
import Derived.Test.YtmbmalkpmanaaaaGreatYH4
import Derived.Maps.AppendAt
import Derived.Laws.EntriesVeiled
namespace Go.Proofs.YtmbmalkpmanaaaaGreat.P
set_option linter.unusedVariables false
set_option linter.unusedSimpArgs false
open Go.RowKit Go.Shelf Go.Proofs.YtmbmalkpmanaaaaGreatW.iD Go.Proofs.YtmbmalkpmanaaaaGreatW.jA Go.Proofs.YtmbmalkpmanaaaaGreatW.jw Go.Proofs.YtmbmalkpmanaaaaGreat.aaZ
attribute [local go_sem] Oper.semAt_some
theorem wH (aa ab:Int) (v2 v3:Value) (h0 h1:Int) (w:World) :
    Calls Tryz.prog 38 #[.agg #[.int .i64 aa,.int .i64 ab,v2,v3],.agg #[.int .i64 h0,.int .i64 h1]] w fun e w' =>
      e=.returned (.func (.func 66) #[] #[.pointer (some ⟨w.heap.size,0,none⟩),.pointer (some ⟨w.heap.size+1,0,none⟩)]) ∧
      w'=(w.alloc (.cells #[.int .i64 aa,.int .i64 ab,v2,v3] 25)).alloc (.cells #[.int .i64 h0,.int .i64 h1] 38):=by
  go_enter Tryz.func38,Tryz.ntmps38
  go_wp2
  go_ret
  exact ⟨rfl,rfl⟩
def jC.l (l:List Sp):List (Int × List Sp)→Int→List Int→Option (List Int × Int)
  | [],_,out=>some (out,0)
  | x :: r,n,out=>if n+1>60000 then some ([],3) else (oG.f x.2 l).bind fun b=>jC.l l r (n+1) (if b=true then out++[x.1] else out)
def jC.f (k:Nat) (p c:Int) (core:List (List S38)) (odd:List S50) (l:List S38):Option (List Int × Int) :=
  (iO.f k l).bind fun ok=>if ok=true then (jh.f l).bind fun h=>if h.2.2=true then (jE.f k p c core odd h.1 h.2.1).bind fun xs=>jC.l l xs 0 [] else some ([],0) else some ([],50)
theorem adt {α β:Type} {a b:Option α} (h:LeO a b) (f:α→β):LeO (a.map f) (b.map f):=fun r hr=>by
  obtain ⟨x,hx,rfl⟩:=Option.map_eq_some_iff.mp hr;rw [h x hx];rfl
theorem jE.kT:∀ (k:Nat) (i:Int) (ok:Bool) (h1 p c:Int) (core:List (List S38)) (odd:List S50),LeO (jE.l k i ok h1 p c core odd) (jE.l (k+1) i ok h1 p c core odd)
  | 0,_,_,_,_,_,_,_=>fun r h=>by simp [jE.l] at h
  | k+1,i,ok,h1,p,c,core,odd=>by
    have ih:=jE.kT k;unfold jE.l;repeat' first
      | (with_reducible exact ih _ _ _ _ _ _ _)
      | (with_reducible exact kC.mono _ _ _ _ _ _)
      | (with_reducible exact kF.mono _ _ _ _ _ _)
      | (with_reducible exact LeO.refl _)
      | (with_reducible exact LeO.none _)
      | (with_reducible refine adt ?_ _)
      | (with_reducible refine LeO.ite ?_ ?_)
      | (with_reducible refine LeO.bind ?_ (fun _ => ?_))
theorem jC.mono (p c:Int) (core:List (List S38)) (odd:List S50) (l:List S38) (k:Nat):LeO (jC.f k p c core odd l) (jC.f (k+1) p c core odd l):=by
  unfold jC.f jE.f;repeat' first
    | (with_reducible exact jE.kT _ _ _ _ _ _ _ _)
    | (with_reducible exact jv.mono _ _ _ _ _ _)
    | (with_reducible exact iO.mono _ _)
    | (with_reducible exact LeO.refl _)
    | (with_reducible exact LeO.none _)
    | (with_reducible refine LeO.ite ?_ ?_)
    | (with_reducible refine LeO.bind ?_ (fun _ => ?_))
theorem qd (tmps:Array Value) (W:World) (b4 b5:Nat) (v4 v5:Value) (e4:tmps.getD 4 undef=.pointer (some ⟨b4,0,none⟩)) (e5:tmps.getD 5 undef=.pointer (some ⟨b5,0,none⟩))
    (h4:Boxed W b4 41 v4) (h5:Boxed W b5 34 v5):(results Tryz.f16 tmps).run Tryz.prog W=.ok (.tuple #[v4,v5]) W:=by
  have e4':tmps[4]?.getD undef=.pointer (some ⟨b4,0,none⟩):=by simpa using e4
  have e5':tmps[5]?.getD undef=.pointer (some ⟨b5,0,none⟩):=by simpa using e5
  have c4:=h4.cell;have c5:=h5.cell;have u4:=Tryz.underlying41;have u5:=Tryz.underlying34;have hr:Tryz.f16.results=#[.cell 4 41,.cell 5 34]:=rfl;simp [results,hr,e4',e5',asAddr,go_sem,c4,c5,u4,u5]
theorem zA {B:Nat} {W W':World} {row:Option Nat} {A:Option Addr} {n:Nat} {xs:List Sp} (h:Kd.C k38 W A n xs) (hg:W.grownBy W' row) (hr:∀ r,row=some r→∀ ad,A=some ad→0<n→ad.block≠r):Kd.C k38 W' A n xs:=by
  cases row with
  | none=>exact Kd.xH (g:=W.heap.size) (fun h=>h) h (fun ad e hn=>by
      obtain ⟨aa,e',h0,_⟩:=j5 h 0 (by omega) (by omega);rw [e] at e';cases e';have:=World.block_lt_of_cell? W _ h0;simp only [add_block] at this;omega) W' ⟨hg.size,fun i hi _ _=>hg.block i hi (by simp)⟩
  | some g=>exact Kd.xH (g:=g) (fun h=>h) h (fun ad e hn=>hr g rfl ad e hn) W' ⟨hg.size,fun i hi hne _=>hg.block i hi (by simpa using hne)⟩
def OI (l1:List Sp) (v1:Value) (xs:List (Int × List Sp)) (r1:List Int) (r2:Int) (N M:Nat) (w:World) (pre:List (Int × List Sp)) (W:World):Prop :=
  ∃ (v:Value) (out:List Int),(∀ rest,xs=pre++rest→jC.l l1 rest (pre.length:Int) out=some (r1,r2))∧out.length≤pre.length∧pre.length≤60000 ∧
    Boxed W (N+1) 27 v1∧Boxed W (N+1+1) 41 (.slice none 0 0)∧Boxed W (N+1+1+1) 34 (.int .i64 0)∧Boxed W (M+1) 41 v∧Boxed W (M+1+1) 3 (.int .i64 (pre.length:Int)) ∧
    W.ownsRow (M+5) 3 1 v out.length (out.map (.int .i64))∧Below N w W∧M+5≤W.heap.size
theorem aa0 {l1:List Sp} {v1:Value} {xs:List (Int × List Sp)} {r1:List Int} {r2:Int} {N M:Nat} {w:World} (hNM:N+4≤M) (pre:List (Int × List Sp)):Mine (M+5) (fun _=>False) (OI l1 v1 xs r1 r2 N M w pre):=by
  rintro W W' row ⟨v,out,a1,a2,a3,b1,b2,b3,b4,b5,b6,hb,hs⟩ hg hr;have far:∀ k,k<M+5→some k≠row:=by
    intro k hk e;rcases hr k e.symm with ⟨h,_⟩ | h
    · omega
    · exact h
  refine ⟨v,out,a1,a2,a3,b1.kept hg (far _ (by omega)),b2.kept hg (far _ (by omega)),b3.kept hg (far _ (by omega)),b4.kept hg (far _ (by omega)),b5.kept hg (far _ (by omega)),b6.kept hg ?_,hb.grown hg (by omega) (fun j e => ?_),Nat.le_trans hs hg.size⟩
  · rcases b6.2 with ⟨rfl,_⟩ | ⟨g,cap,cur,rfl,hge,hgb,_⟩
    · exact .inl rfl
    · refine .inr fun e => ?_
      rcases hr g (by simpa [Value.ownBlock] using e.symm) with ⟨_,o,ho,hc⟩ | h
      · rw [hgb] at ho;cases ho;cases hc
      · exact h
  · rcases hr j e with ⟨h,_⟩ | h
    · omega
    · exact h.elim
def OX (r1:List Int) (r2:Int) (N:Nat) (w:World) (c:Code) (W:World):Prop :=
  c=.ret∧r1=[]∧r2=3∧Boxed W (N+1+1) 41 (.slice none 0 0)∧Boxed W (N+1+1+1) 34 (.int .i64 3)∧Below N w W∧N+4≤W.heap.size
theorem adu {r1:List Int} {r2:Int} {N M:Nat} {w:World} (hNM:N+4≤M) (c:Code):Mine (M+5) (fun _=>False) (OX r1 r2 N w c):=by
  rintro W W' row ⟨a1,a2,a3,b1,b2,hb,hs⟩ hg hr;have far:∀ k,k<M+5→some k≠row:=by
    intro k hk e;rcases hr k e.symm with ⟨h,_⟩ | h
    · omega
    · exact h
  exact ⟨a1,a2,a3,b1.kept hg (far _ (by omega)),b2.kept hg (far _ (by omega)),hb.grown hg (by omega) (fun j e=>by rcases hr j e with ⟨h,_⟩ | h;omega;exact h.elim),Nat.le_trans hs hg.size⟩
def OA (OF:Int→Value→Act) (l1:List Sp) (v1:Value) (xs:List (Int × List Sp)) (r1:List Int) (r2:Int) (N M:Nat) (w:World) (pre:List (Int × List Sp)) (b:Int × List Sp) (a':Act) (W:World):Prop :=
  ∃ A c,a'=OF b.1 (.slice A b.2.length c)∧b.2.length≤c∧(∀ ad,A=some ad→M+5≤ad.block)∧Kd.C k38 W A b.2.length b.2∧OI l1 v1 xs r1 r2 N M w pre W
theorem adv {OF:Int→Value→Act} {l1:List Sp} {v1:Value} {xs:List (Int × List Sp)} {r1:List Int} {r2:Int} {N M:Nat} {w:World} (hNM:N+4≤M) (pre:List (Int × List Sp)) (b:Int × List Sp) (a':Act):Mine (M+5) (fun _=>False) (OA OF l1 v1 xs r1 r2 N M w pre b a'):=by
  rintro W W' row ⟨A,c,e,hc,hA,hC,hI⟩ hg hr;refine ⟨A,c,e,hc,hA,zA (B:=M+5) hC hg (fun r er ad ea hn eb => ?_),aa0 hNM pre W W' row hI hg hr⟩;rcases hr r er with ⟨_,o,ho,hoc⟩ | h
  · obtain ⟨aa,e',h0,_⟩:=j5 hC 0 (by omega) (by omega)
    rw [ea] at e';cases e';obtain ⟨o2,ho2,hc2⟩:=cells_of_cell h0;rw [add_block,eb,ho] at ho2;cases ho2;rw [hoc] at hc2;cases hc2
  · exact h
theorem aep {N M j B:Nat} (W:World) (v:Value) (h0:N≤j) (h1:j≠M+1+1+1) (h2:j≠M+1+1+1+1):KeepsFrom B W (W.setCell ⟨j,0,none⟩ v)∧KpI N (M+1+1+1) (M+1+1+1+1) W (W.setCell ⟨j,0,none⟩ v) :=
  ⟨(KeepsOthers.setCell _ _ _).from _,(Below.refl N W).setCell (p:=⟨j,0,none⟩) h0 _,Below.heap_setCell _ _ _ _ (Ne.symm h1),Below.heap_setCell _ _ _ _ (Ne.symm h2)⟩
theorem acM {N B1 B2 B:Nat} {W1 W2 W3:World} (h:KeepsFrom B W1 W2∧KpI N B1 B2 W1 W2) (k:KeepsFrom B W2 W3∧KpI N B1 B2 W2 W3):KeepsFrom B W1 W3∧KpI N B1 B2 W1 W3 :=
  ⟨h.1.trans k.1,h.2.1.trans k.2.1,k.2.2.1.trans h.2.2.1,k.2.2.2.trans h.2.2.2⟩
theorem ab3 {N B1 B2 B:Nat} {W1 W2:World} (h:Below W1.heap.size W1 W2) (hN:N≤W1.heap.size) (h1:B1<W1.heap.size) (h2:B2<W1.heap.size):KeepsFrom B W1 W2∧KpI N B1 B2 W1 W2 :=
  ⟨⟨h.size,fun k o _ hk _=>(h.block k (Array.getElem?_eq_some_iff.1 hk).1).trans hk⟩,h.mono hN,h.block _ h1,h.block _ h2⟩
theorem aa1 {W W':World} {nb e size k:Nat} {v:Value} {xs:List Value} (h:W.ownsRow nb e size v k xs) (hb:Below W.heap.size W W'):W'.ownsRow nb e size v k xs:=by
  rcases h.2 with ⟨rfl,_⟩ | ⟨g,cap,cur,rfl,_⟩
  · exact h.kept (rP hb) (.inl rfl)
  · exact h.kept (rP hb) (.inr (by simp [Value.ownBlock]))
theorem aaf (A:Option Addr) (n c:Nat) (hn:n≤c) (w:World):Calls Tryz.prog 40 #[.slice A n c] w fun e w'=>e=.returned (.slice A n n)∧w=w':=by
  go_enter Tryz.func40,Tryz.ntmps40
  go_wp2
  go_ret
  exact ⟨rfl,rfl⟩
theorem adw:(Tryz.prog.info? 3).map (fun i=>(i.zero,i.size,i.bytes))=some (some (.int .i64 0),1,8):=by kernel_rfl
set_option maxHeartbeats 8000000 in
set_option maxRecDepth 100000 in
theorem adx (k:Nat) (ac:Int) (ae:Int) (af:Option Addr) (ag:Nat) (aa:List (List (S38))) (ah:Option Addr) (ai:Nat) (ab:List (S50)) (A1:Option Addr) (c1:Nat) (l1:List (S38)) (r1:List Int) (r2:Int)
    (w:World) (ax:Kd.C (Kd.slice 38 k38) w af aa.length aa) (ay:aa.length≤ag) (az:Kd.C k50 w ah ab.length ab) (aA:ab.length≤ai) (hr1:Kd.C k38 w A1 l1.length l1) (hc1:l1.length≤c1)
    (h:jC.f k ac ae aa ab l1=some (r1,r2)) :
    CallsIn Fence.wide 3 Tryz.prog 16 #[.agg #[.int .i64 ac,.int .i64 ae,.slice af aa.length ag,.slice ah ab.length ai],.slice A1 l1.length c1] w fun e w'=>∃ v0_:Value,e=.returned (.tuple #[v0_,.int .i64 r2])∧Kd.V (Kd.int .i64) 3 w' w.heap.size (fun k_=>w.heap.size≤k_) v0_ r1∧Below w.heap.size w w':=by
  have HR2:=gL.mk ax;have aT:=gL.mk ay;have HR3:=gL.mk az;have aU:=gL.mk aA;have HR1:=gL.mk hr1;have aE:=gL.mk hc1;unfold jC.f at h;obtain ⟨ok,hok,h⟩:=Option.bind_eq_some_iff.mp h;have aV:=gL.mk hok;have H:=gL.mk h;clear ax ay az aA hr1 hc1 h hok;refine callsIn_of_wp_marks Tryz.func16 rfl trivial ?_ rfl;simp only [Tryz.ntmps16,List.size_toArray,List.length_cons,List.length_nil,Nat.reduceAdd,Nat.reduceSub,Array.replicate_succ,Array.replicate_zero,List.push_toArray,List.append_toArray,List.nil_append,List.cons_append];gi_wp2_with fail;refine ⟨trivial,?_⟩;refine (callsIn_wide.2 (iO.calls k A1 c1 l1 ok _ (Kd.iA HR1.out (by repeat (first | exact Below.refl _ _ | apply jm))) aE.out aV.out)).mono ?_;rintro e w1 ⟨rfl,hb1⟩;have HB:=gL.mk ((((((Below.refl w.heap.size w).alloc (Nat.le_refl _) _).alloc (by simp) _).alloc (by simp;try omega) _).alloc (by simp;try omega) _).trans (hb1.mono (by simp;try omega)));have ao:gL (w1.heap[w.heap.size]? = some (.cells #[.int .i64 ac,.int .i64 ae,.slice af aa.length ag,.slice ah ab.length ai] 25 (0,0))):=⟨gU (gM (gM (gM (nu w _) _) _) _) hb1⟩;have ap:gL (w1.heap[w.heap.size+1]? = some (.cells #[.slice A1 l1.length c1] 27 (0,0))):=⟨by have:=gU (gM (gM (nu (w.alloc _) _) _) _) hb1;simpa using this⟩;have aj:gL (w1.heap[w.heap.size+1+1]? = some (.cells #[.slice none 0 0] 41 (0,0))):=⟨by have:=gU (gM (nu ((w.alloc _).alloc _) _) _) hb1;simpa using this⟩
  have ak:gL (w1.heap[w.heap.size+1+1+1]? = some (.cells #[.int .i64 0] 34 (0,0))):=⟨by have:=gU (nu (((w.alloc _).alloc _).alloc _) _) hb1;simpa using this⟩;have SZ:gL (w.heap.size+4≤w1.heap.size):=⟨by have:=hb1.size;simp at this;omega⟩;clear hb1;have hc3:=(iY ap.out 0).trans rfl;have aF:=kQ aj.out 0;have aG:=kQ ak.out 0;have hc4:=(iY aj.out 0).trans rfl;have aH:=(iY ak.out 0).trans rfl;cases ok
  · have h:=H.out
    simp at h
    obtain ⟨rfl,rfl⟩:=h;gi_wp2;refine ⟨_,qd _ _ (w.heap.size+1+1) (w.heap.size+1+1+1) (.slice none 0 0) (.int .i64 50) rfl rfl ?_ ?_,_,rfl,Kd.nJ _ _ _ _ _,?_⟩
    · exact ((show Boxed w1 _ _ _ from aj.out).set _).kept (grownBy_setCell' _ _ _) (mO (by omega))
    · exact ((show Boxed w1 _ _ _ from ak.out).kept (grownBy_setCell' _ _ _) (mO (by omega))).set _
    · exact (HB.out.setCell (p:=⟨_,0,none⟩) (by show _≤_+1+1;omega) _).setCell (p:=⟨_,0,none⟩) (by show _≤_+1+1+1;omega) _
  · have h:=H.out
    rw [if_pos rfl] at h;obtain ⟨⟨h0,h1,aM⟩,hh,h⟩:=Option.bind_eq_some_iff.mp h;have HH:=gL.mk hh;have H2:=gL.mk h;clear H h hh;gi_wp2_with fail;refine ⟨trivial,?_⟩;refine (callsIn_wide.2 (jh.calls A1 c1 l1 h0 h1 aM _ (Kd.iA HR1.out HB.out) aE.out HH.out)).mono ?_;rintro e w2 ⟨rfl,hb2⟩;have n2:=gL.mk (gU ao.out hb2);have n3:=gL.mk (gU ap.out hb2);have n4:=gL.mk (gU aj.out hb2);have n5:=gL.mk (gU ak.out hb2);have nb:=gL.mk (HB.out.trans (hb2.mono HB.out.size));have sz:=gL.mk (Nat.le_trans SZ.out hb2.size);clear ao ap aj ak HB SZ hb2 hc3 aF aG hc4 aH;have ao:=n2;have ap:=n3;have aj:=n4;have ak:=n5;have HB:=nb;have SZ:=sz;clear n2 n3 n4 n5 nb sz;have hz2:w.heap.size<w2.heap.size:=by have:=SZ.out;omega
    have aW:w.heap.size+1+1<w2.heap.size:=by have:=SZ.out;omega
    have aX:w.heap.size+1+1+1<w2.heap.size:=by have:=SZ.out;omega
    have aF:=kQ aj.out 0;have aG:=kQ ak.out 0;have hc4:=(iY aj.out 0).trans rfl;have aH:=(iY ak.out 0).trans rfl;have au:=(iY ao.out 0).trans rfl;have hc21:=(iY ao.out 1).trans rfl;have hc22:=(iY ao.out 2).trans rfl;have av:=(iY ao.out 3).trans rfl;cases aM
    · have h:=H2.out
      simp at h
      obtain ⟨rfl,rfl⟩:=h;clear au hc21 hc22 av;gi_wp2;refine ⟨_,qd _ _ (w.heap.size+1+1) (w.heap.size+1+1+1) (.slice none 0 0) (.int .i64 0) rfl rfl ?_ ?_,_,rfl,Kd.nJ _ _ _ _ _,?_⟩
      · exact (((show Boxed w2 _ _ _ from aj.out).set _).kept (grownBy_setCell' _ _ _) (mO (by omega))).alloc _
      · exact (((show Boxed w2 _ _ _ from ak.out).kept (grownBy_setCell' _ _ _) (mO (by omega))).set _).alloc _
      · exact ((HB.out.setCell (p:=⟨_,0,none⟩) (by show _≤_+1+1;omega) _).setCell (p:=⟨_,0,none⟩) (by show _≤_+1+1+1;omega) _).alloc (by simp;omega) _
    · have h:=H2.out
      rw [if_pos rfl] at h;obtain ⟨xs,hx,h⟩:=Option.bind_eq_some_iff.mp h;have HX:=gL.mk hx;have H3:=gL.mk h;clear H2 h hx au hc21 hc22 av hc4 aH aF aG hz2 aW aX;have b20:=gM (gM (gM ao.out (.cells #[.int .i64 h0,.int .i64 h1] 38)) (.cells #[.slice none 0 0] 41)) (.cells #[.int .i64 0] 3);have au:=(iY b20 0).trans rfl;have hc21:=(iY b20 1).trans rfl;have hc22:=(iY b20 2).trans rfl;have av:=(iY b20 3).trans rfl;clear b20;gi_wp2_with fail;refine ⟨trivial,?_⟩;refine (callsIn_wide.2 (wH ac ae _ _ h0 h1 _)).mono ?_;rintro e w5 ⟨rfl,rfl⟩;clear au hc21 hc22 av;gi_wp2_with fail;obtain ⟨wL,al⟩:∃ wL,(((((w2.alloc (.cells #[.int .i64 h0,.int .i64 h1] 38)).alloc (.cells #[.slice none 0 0] 41)).alloc (.cells #[.int .i64 0] 3)).alloc (.cells #[.int .i64 ac,.int .i64 ae,.slice af aa.length ag,.slice ah ab.length ai] 25)).alloc (.cells #[.int .i64 h0,.int .i64 h1] 38))=wL:=⟨_,rfl⟩;have k3:Boxed wL (w.heap.size+1) 27 (.slice A1 l1.length c1):=by rw [← al];exact gM (gM (gM (gM (gM ap.out _) _) _) _) _
      have k4:Boxed wL (w.heap.size+1+1) 41 (.slice none 0 0):=by rw [← al];exact gM (gM (gM (gM (gM aj.out _) _) _) _) _
      have k5:Boxed wL (w.heap.size+1+1+1) 34 (.int .i64 0):=by rw [← al];exact gM (gM (gM (gM (gM ak.out _) _) _) _) _
      have k8:Boxed wL (w2.heap.size+1) 41 (.slice none 0 0):=by rw [← al];have:=gM (gM (gM (nu (w2.alloc (.cells #[.int .i64 h0,.int .i64 h1] 38)) (.cells #[.slice none 0 0] 41)) (.cells #[.int .i64 0] 3)) (.cells #[.int .i64 ac,.int .i64 ae,.slice af aa.length ag,.slice ah ab.length ai] 25)) (.cells #[.int .i64 h0,.int .i64 h1] 38);simpa [Boxed] using this
      have k9:Boxed wL (w2.heap.size+1+1) 3 (.int .i64 0):=by rw [← al];have:=gM (gM (nu ((w2.alloc (.cells #[.int .i64 h0,.int .i64 h1] 38)).alloc (.cells #[.slice none 0 0] 41)) (.cells #[.int .i64 0] 3)) (.cells #[.int .i64 ac,.int .i64 ae,.slice af aa.length ag,.slice ah ab.length ai] 25)) (.cells #[.int .i64 h0,.int .i64 h1] 38);simpa [Boxed] using this
      have kB1:wL.heap[w2.heap.size+1+1+1]? = some (.cells #[.int .i64 ac,.int .i64 ae,.slice af aa.length ag,.slice ah ab.length ai] 25 (0,0)):=by rw [← al];have:=gM (nu (((w2.alloc (.cells #[.int .i64 h0,.int .i64 h1] 38)).alloc (.cells #[.slice none 0 0] 41)).alloc (.cells #[.int .i64 0] 3)) (.cells #[.int .i64 ac,.int .i64 ae,.slice af aa.length ag,.slice ah ab.length ai] 25)) (.cells #[.int .i64 h0,.int .i64 h1] 38);simpa using this
      have kB2:wL.heap[w2.heap.size+1+1+1+1]? = some (.cells #[.int .i64 h0,.int .i64 h1] 38 (0,0)):=by rw [← al];have:=nu ((((w2.alloc (.cells #[.int .i64 h0,.int .i64 h1] 38)).alloc (.cells #[.slice none 0 0] 41)).alloc (.cells #[.int .i64 0] 3)).alloc (.cells #[.int .i64 ac,.int .i64 ae,.slice af aa.length ag,.slice ah ab.length ai] 25)) (.cells #[.int .i64 h0,.int .i64 h1] 38);simpa using this
      have sL:wL.heap.size=w2.heap.size+5:=by rw [← al];simp
      have hbL:Below w.heap.size w wL:=by rw [← al];exact ((((HB.out.alloc HB.out.size _).alloc (by have:=HB.out.size;simp;omega) _).alloc (by have:=HB.out.size;simp;omega) _).alloc (by have:=HB.out.size;simp;omega) _).alloc (by have:=HB.out.size;simp;omega) _
      rw [al];have sM:=SZ.out;clear al ao ap aj ak HB SZ;generalize w2.heap.size=M at *;clear w2;have hseq:=yK 2 (by omega) k ac ae af ag aa ah ai ab h0 h1 xs w wL _ _ HR2.out aT.out HR3.out aU.out hbL kB1 kB2 HX.out;rw [sL] at hseq;have aw:=gL.mk hseq;clear hseq;obtain ⟨OF,aN⟩:∃ OF:Int→Value→Act,OF=fun i v=>{ tmps:=#[.agg #[.int .i64 ac,.int .i64 ae,.slice af aa.length ag,.slice ah ab.length ai],.slice A1 l1.length c1,.pointer (some ⟨w.heap.size,0,none⟩),.pointer (some ⟨w.heap.size+1,0,none⟩),.pointer (some ⟨w.heap.size+1+1,0,none⟩),.pointer (some ⟨w.heap.size+1+1+1,0,none⟩),.pointer (some ⟨M,0,none⟩),.bool true,.pointer (some ⟨M+1,0,none⟩),.pointer (some ⟨M+1+1,0,none⟩),.int .i64 i,v,.slice A1 l1.length c1,.bool true,.bool false,.tuple #[.agg #[.int .i64 h0,.int .i64 h1],.bool true],.slice A1 l1.length c1,.tuple #[.agg #[.int .i64 h0,.int .i64 h1],.bool true],.agg #[.int .i64 h0,.int .i64 h1],.bool true,.bool true,.bool false,.agg #[.int .i64 ac,.int .i64 ae,.slice af aa.length ag,.slice ah ab.length ai],.agg #[.int .i64 h0,.int .i64 h1],.func (.func 66) #[] #[.pointer (some ⟨M+1+1+1,0,none⟩),.pointer (some ⟨M+1+1+1+1,0,none⟩)],.int .i64 i,v,undef,undef,undef,undef,undef,undef,undef,undef,undef,undef,undef,undef,undef],defers:=[] }:=⟨_,rfl⟩;have aO:=gL.mk aN;clear aN
      refine yJ (w0:=wL) rfl (by omega) (gf:=66) rfl trivial (enters_of Tryz.func66 (by kernel_rfl) rfl) aw.out ?hKt ?hKb (Below.refl _ _) ?hps (OI l1 (.slice A1 l1.length c1) xs r1 r2 w.heap.size M w) (OX r1 r2 w.heap.size w) ?hI ?hIx ?h0 (OA OF l1 (.slice A1 l1.length c1) xs r1 r2 w.heap.size M w) ?hAx ?assign ?body ?done ?stop
      case hKt=>exact fun h k=>⟨h.1.trans k.1,k.2.1.trans h.2.1,k.2.2.trans h.2.2⟩
      case hKb =>
        intro W l o o' hl ho hc hw;exact ⟨belowK_b (w:=w) (Nat.le_refl _) W l o o' (by omega) ho hc hw,World.putObj_heap_other (by omega),World.putObj_heap_other (by omega)⟩
      case hps=>rintro b args W ⟨A,c,rfl,_⟩;rfl
      case hI=>rw [sL];exact aa0 sM
      case hIx=>rw [sL];exact adu sM
      case hAx=>rw [sL];exact fun pre b a'=>adv sM pre b a'
      case h0=>exact ⟨_,[],fun rest e=>by rw [show rest=xs from e.symm];exact H3.out,Nat.le_refl _,by simp,k3,k4,k5,k8,k9,World.ownsRow_nil _ _ _ _,hbL,by omega⟩
      case assign =>
        rintro l pre b args W K hI ⟨A,c,rfl,hbc,hA,hC⟩ hK;have hbs:=hI;obtain ⟨v,out,_,_,_,_,_,_,_,_,_,hb',hs'⟩:=hbs;have HI:=gL.mk hI;have HKK:=gL.mk hK;have aB:=gL.mk hC;have aI:=gL.mk hA;have aJ:=gL.mk hbc;clear hI hK hC hA hbc;gi_wp2;refine HKK.out _ _ (KeepsFrom.refl _ _) ⟨Below.refl _ _,rfl,rfl⟩ ⟨A,c,?_,aJ.out,aI.out,aB.out,HI.out⟩;rw [aO.out]
      case body =>
        rintro l pre b r a' W hxs ⟨A,c,ha',hbc,hA,hC,v,out,hfind,ho1,ho2,x3,x4,x5,x8,x9,hrow,hb,hsz⟩;rw [aO.out] at ha';subst ha';have hst:=hfind (b :: r) hxs;have HF:=gL.mk (fun rest (e:xs=(pre++[b])++rest)=>(show r=rest from by rw [hxs,List.append_assoc] at e;simpa using e));have aB:=gL.mk hC;have aI:=gL.mk hA;have aJ:=gL.mk hbc;have HB:=gL.mk hb;have HRW:=gL.mk hrow;have c3:=x3.cell;have f4:=x4.frozen;have f5:=x5.frozen;have c4:=x4.cell;have c5:=x5.cell;have c8:=x8.cell;have f8:=x8.frozen;have c9:=x9.cell;have f9:=x9.frozen;have w9:wrap64 ((pre.length:Int)+1)=((pre.length:Int)+1):=by unfold wrap64;omega
        have HST:=gL.mk hst;clear hst hfind hxs hC hA hbc hb hrow aw k3 k4 k5 k8 k9 kB1 kB2 hbL;by_cases hm:(pre.length:Int)+1>60000
        · have h:=HST.out
          simp only [jC.l] at h;rw [if_pos hm] at h;cases h;have hm0:decide (60000<(pre.length:Int)+1)=true:=decide_eq_true hm;clear hm;gi_wp2;refine ⟨(KeepsOthers.setCell _ _ _).trans ((KeepsOthers.setCell _ _ _).trans (KeepsOthers.setCell _ _ _)) |>.from _,rfl,rfl,rfl,?_,?_,?_,?_⟩
          · exact ((x4.kept (grownBy_setCell' W _ _) (mO (by omega))).set _).kept (grownBy_setCell' _ _ _) (mO (by omega))
          · exact ((x5.kept (grownBy_setCell' W _ _) (mO (by omega))).kept (grownBy_setCell' _ _ _) (mO (by omega))).set _
          · exact ((HB.out.setCell (p:=⟨_,0,none⟩) (by show _≤M+1+1;omega) _).setCell (p:=⟨_,0,none⟩) (by show _≤_+1+1;omega) _).setCell (p:=⟨_,0,none⟩) (by show _≤_+1+1+1;omega) _
          · simp;omega
        · have h:=HST.out
          simp only [jC.l] at h;rw [if_neg hm] at h;obtain ⟨bb,hbb,h⟩:=Option.bind_eq_some_iff.mp h;have aY:=gL.mk hbb;have HH:=gL.mk h;have hm0:decide (60000<(pre.length:Int)+1)=false:=decide_eq_false (by omega);have HM:=gL.mk hm;clear hm h hbb;gi_wp2_with fail;refine ⟨trivial,?_⟩;have aP:Kd.C k38 (W.setCell ⟨M+1+1,0,none⟩ (.int .i64 ((pre.length:Int)+1))) A b.2.length b.2:=zA (B:=0) aB.out (grownBy_setCell' W _ _) (fun r e ad ea _ eb=>by cases e;have:=aI.out ad ea;omega);have aC:Below w.heap.size w (W.setCell ⟨M+1+1,0,none⟩ (.int .i64 ((pre.length:Int)+1))):=HB.out.setCell (p:=⟨_,0,none⟩) (by show _≤M+1+1;omega) _;refine (CallsIn.inRound l (callsIn_wide.2 (oG.calls A c b.2 A1 c1 l1 bb _ aP aJ.out (Kd.iA HR1.out aC) aE.out aY.out))).mono ?_;rintro e w6 ⟨rfl,hb6⟩;have q6:=acM (aep (N:=w.heap.size) (M:=M) (B:=M+5) W (.int .i64 ((pre.length:Int)+1)) (j:=M+1+1) (by omega) (by omega) (by omega)) (ab3 (B:=M+5) (B1:=M+1+1+1) (B2:=M+1+1+1+1) (N:=w.heap.size) hb6 (by simp;omega) (by simp;omega) (by simp;omega));have Q6:=gL.mk q6;have aQ:=aC.trans (hb6.mono aC.size);have aK:=gL.mk aQ;have y3:Boxed w6 _ _ _:=gU (x3.kept (grownBy_setCell' W (M+1+1) (.int .i64 ((pre.length:Int)+1))) (mO (by omega))) hb6;have y4:Boxed w6 _ _ _:=gU (x4.kept (grownBy_setCell' W (M+1+1) (.int .i64 ((pre.length:Int)+1))) (mO (by omega))) hb6;have y5:Boxed w6 _ _ _:=gU (x5.kept (grownBy_setCell' W (M+1+1) (.int .i64 ((pre.length:Int)+1))) (mO (by omega))) hb6
          have y8:Boxed w6 _ _ _:=gU (x8.kept (grownBy_setCell' W (M+1+1) (.int .i64 ((pre.length:Int)+1))) (mO (by omega))) hb6;have y9:Boxed w6 _ _ _:=gU (x9.set (.int .i64 ((pre.length:Int)+1))) hb6;have aL:=aa1 (HRW.out.kept (grownBy_setCell' W (M+1+1) (.int .i64 ((pre.length:Int)+1))) (.inr (sF HRW.out (by omega)))) hb6;have YR:=gL.mk aL;have aR:M+5≤w6.heap.size:=Nat.le_trans (by simp;omega) hb6.size;clear aP aC q6 aQ hb6 aL c3 c4 c5 c8 c9 f4 f5 f8 f9 x3 x4 x5 x8 x9 HB aB hm0 w9 HRW;have aS:=aR;have hl1:((pre++[b]).length:Int)=(pre.length:Int)+1:=by simp
          have hl2:(pre++[b]).length=pre.length+1:=by simp
          have aD:=gL.mk hl1;have HL2:=gL.mk hl2;clear hl1 hl2;cases bb
          · gi_wp2
            refine ⟨by rw [sL];exact Q6.out.1,Q6.out.2,v,out,fun rest e => ?_,by rw [HL2.out];omega,by rw [HL2.out];have:=HM.out;omega,y3,y4,y5,y8,by rw [aD.out];exact y9,YR.out,aK.out,aR⟩;have:=HH.out;rw [← HF.out rest e,aD.out];simpa using this
          · have c8:=y8.cell
            have f8:=y8.frozen;have hll:out.length+1≤60000:=by have:=HM.out;omega
            obtain ⟨ii,hi,hz0,hz1,hz2⟩:=info_parts adw;gi_wp2_with (gi_at_builtin;refine wpListIn_append_own _ rfl _ _ 41 rfl (M+5) 3 ii (.int .i64 0) 1 8 Tryz.underlying41 hi hz0 hz1 hz2 rfl (by decide) _ _ _ rfl (YR.out.alloc _) ⟨w6.heap.size,0,none⟩ 1 1 [.int .i64 b.1] rfl rfl (cell_one_new _ _ _) (by simp [Value.oneCell']) (by unfold maxLen;omega) (by omega) (by simp;omega) ?_;intro v' w7 hown' hgrow _;obtain ⟨g',cap',rfl⟩:=ownsRow_succ hown';obtain ⟨hv1,hv2,hr2,hk2,hb2,aq⟩:=xK (n₀:=w.heap.size) (nb:=M+5) y8 (by omega) YR.out aS (by omega) (by omega) hown' hgrow;have hc1:=hv1.cell;have hf1:=hv1.frozen);have q7:=acM Q6.out ⟨hk2.from (M+5),hb2,aq _ (by omega) (by omega),aq _ (by omega) (by omega)⟩;refine ⟨by rw [sL];exact q7.1,q7.2,_,out++[b.1],fun rest e => ?_,by rw [HL2.out];simp;omega,by rw [HL2.out];have:=HM.out;omega,(aq _ (by omega) (by omega)).trans y3,(aq _ (by omega) (by omega)).trans y4,(aq _ (by omega) (by omega)).trans y5,hv2,by rw [aD.out];exact (aq _ (by omega) (by omega)).trans y9,by simpa using hr2,aK.out.trans hb2,by have:=hk2.size;omega⟩;have:=HH.out;rw [← HF.out rest e,aD.out];simpa using this
      case done =>
        rintro D W hD ⟨v,out,hfind,ho1,ho2,x3,x4,x5,x8,x9,hrow,hb,hsz⟩ hK;have hst:=hfind [] (by simp);simp only [jC.l,Option.some.injEq,Prod.mk.injEq] at hst;obtain ⟨rfl,rfl⟩:=hst;have c8:=x8.cell;have f4:=x4.frozen;have f5:=x5.frozen;have c4:=x4.cell;have c5:=x5.cell;obtain ⟨A,c,rfl,aZ,hlc⟩:∃ A c,v=.slice A out.length c∧out.length≤c∧(out.length=0∨True):=by
          rcases hrow.2 with ⟨rfl,e⟩ | ⟨g,cap,cur,rfl,_,_,e,_⟩
          · exact ⟨none,0,by rw [e],by omega,.inl e⟩
          · exact ⟨_,cap,rfl,e,.inr trivial⟩
        have HRW:=gL.mk hrow;have HB:=gL.mk hb;have HK:=gL.mk hK;clear aw k3 k4 k5 k8 k9 kB1 kB2 hbL hfind hrow hb hK;gi_wp2_with fail;refine ⟨trivial,?_⟩;refine (callsIn_wide.2 (aaf A out.length c aZ W)).mono ?_;rintro e w' ⟨rfl,rfl⟩;gi_wp2;have hD2:((W.setCell ⟨w.heap.size+1+1,0,none⟩ (.slice A out.length out.length)).setCell ⟨w.heap.size+1+1+1,0,none⟩ (.int .i64 0)).heap[D]? = some (.deferred (some [])):=by
          rw [Below.heap_setCell _ _ _ _ (show D≠w.heap.size+1+1+1 by omega),Below.heap_setCell _ _ _ _ (show D≠w.heap.size+1+1 by omega)];exact HK.out
        refine ⟨by simp,.inl ⟨_,_,rfl,run_takeDeferred hD2,?_⟩⟩;refine ⟨_,qd _ _ (w.heap.size+1+1) (w.heap.size+1+1+1) (.slice A out.length out.length) (.int .i64 0) rfl rfl ?_ ?_,_,rfl,?_,?_⟩
        · exact (World.putObj_heap_other (by omega)).trans ((x4.set _).kept (grownBy_setCell' _ _ _) (mO (by omega)))
        · exact (World.putObj_heap_other (by omega)).trans ((x5.kept (grownBy_setCell' _ _ _) (mO (by omega))).set _)
        · have h1:=(HRW.out.kept (grownBy_setCell' W (w.heap.size+1+1) (.slice A out.length out.length)) (.inr (sF HRW.out (by omega)))).kept (grownBy_setCell' _ (w.heap.size+1+1+1) (.int .i64 0)) (.inr (sF HRW.out (by omega)))
          have h2:=ownsRow_putObj h1 (.deferred none) hD2 rfl;have h3:(Kd.int .i64).R 3 _ (M+5) (fun k_=>w.heap.size≤k_) (.slice A out.length c) out:=Kd.abO h2 (fun k e=>by
            rcases h2.2 with ⟨e2,_⟩ | ⟨g,cap,cur,e2,hg,_⟩
            · rw [e2] at e;simp [Value.ownBlock] at e
            · rw [e2] at e;simp [Value.ownBlock] at e;omega)
          exact Kd.sS (Nat.le_refl _) (Kd.R_F h3)
        · exact ((HB.out.setCell (p:=⟨_,0,none⟩) (by show _≤_+1+1;omega) _).setCell (p:=⟨_,0,none⟩) (by show _≤_+1+1+1;omega) _).trans (belowK_b (w:=w) (Nat.le_refl _) _ D _ _ (by omega) hD2 rfl rfl)
      case stop =>
        rintro D c W hD ⟨rfl,rfl,rfl,x4,x5,hb,hs⟩ hK;have HK:=gL.mk hK;have HB:=gL.mk hb;clear aw k3 k4 k5 k8 k9 kB1 kB2 hbL hb hK;gi_wp2;refine ⟨by simp,.inl ⟨_,_,rfl,run_takeDeferred HK.out,?_⟩⟩;refine ⟨_,qd _ _ (w.heap.size+1+1) (w.heap.size+1+1+1) (.slice none 0 0) (.int .i64 3) rfl rfl ?_ ?_,_,rfl,Kd.nJ _ _ _ _ _,?_⟩
        · exact (World.putObj_heap_other (by omega)).trans x4
        · exact (World.putObj_heap_other (by omega)).trans x5
        · exact HB.out.trans (belowK_b (w:=w) (Nat.le_refl _) W D _ _ (by omega) HK.out rfl rfl)
theorem jC.calls (k:Nat) (ac:Int) (ae:Int) (af:Option Addr) (ag:Nat) (aa:List (List (S38))) (ah:Option Addr) (ai:Nat) (ab:List (S50)) (A1:Option Addr) (c1:Nat) (l1:List (S38)) (r1:List Int) (r2:Int) (w:World) (aj:Kd.C (Kd.slice 38 k38) w af aa.length aa) (ak:aa.length≤ag) (al:Kd.C k50 w ah ab.length ab) (ao:ab.length≤ai) (hr1:Kd.C k38 w A1 l1.length l1) (hc1:l1.length≤c1)
    (h:jC.f k ac ae aa ab l1=some (r1,r2)) :
    Calls Tryz.prog 16 #[.agg #[.int .i64 ac,.int .i64 ae,.slice af aa.length ag,.slice ah ab.length ai],.slice A1 l1.length c1] w fun e w'=>∃ v0_:Value,e=.returned (.tuple #[v0_,.int .i64 r2])∧Kd.V (Kd.int .i64) 3 w' w.heap.size (fun k_=>w.heap.size≤k_) v0_ r1∧Below w.heap.size w w' :=
  callsIn_wide.1 (adx k ac ae af ag aa ah ai ab A1 c1 l1 r1 r2 w aj ak al ao hr1 hc1 h)
end Go.Proofs.YtmbmalkpmanaaaaGreat.P

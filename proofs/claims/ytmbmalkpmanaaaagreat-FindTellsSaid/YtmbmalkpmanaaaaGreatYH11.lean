/- Lemmas for laws of chapter 7: what the functions that they reach compute. No condition of its own. -/
import Derived.Test.YtmbmalkpmanaaaaGreatYH2
import Derived.Test.YtmbmalkpmanaaaaGreatYH10
import Derived.Test.YtmbmalkpmanaaaaGreatYH8
import Derived.Test.YtmbmalkpmanaaaaGreatYH6
import Derived.Test.YtmbmalkpmanaaaaGreatYH7
import Derived.Sort.LoopGhostIn
import Derived.Sort.QuietTacIn
import Derived.Sort.BigQuietIn
import Derived.Outline
import Derived.Test.YtmbmalkpmanaaaaGreatYH4
namespace Go.Proofs.YtmbmalkpmanaaaaGreat.P
set_option linter.unusedVariables false
set_option linter.unusedSimpArgs false
open Go.RowKit Go.Shelf Go.Proofs.YtmbmalkpmanaaaaGreatW.iD Go.Proofs.YtmbmalkpmanaaaaGreatW.jA Go.Proofs.YtmbmalkpmanaaaaGreatW.jw Go.Proofs.YtmbmalkpmanaaaaGreat.aaZ
attribute [local go_sem] Oper.semAt_some
def ae3 (n₁:Nat) (b:Int × List Sp) (args:Array Value) (W:World):Prop:=∃ A c,args=#[.int .i64 b.1,.slice A b.2.length c]∧b.2.length≤c∧(∀ ad,A=some ad→n₁≤ad.block)∧Kd.C k38 W A b.2.length b.2
def KpI (n₀ B1 B2:Nat) (W W':World):Prop:=Below n₀ W W'∧W'.heap[B1]? = W.heap[B1]? ∧ W'.heap[B2]? = W.heap[B2]?
def jE.l:Nat→Int→Bool→Int→Int→Int→List (List S38)→List S50→Option (List (Int × List Sp))
  | 0,_,_,_,_,_,_,_=>none
  | k+1,i,ok,h1,p,c,core,odd=>if ok=true then (kC.f k p c core odd i).bind fun g=>if g.2=0 then (if 0<g.1.length then (if (gN g.1 0).f0>h1 then some [] else (kF.f k p c core odd i).bind fun n=>(jE.l k n.1 n.2 h1 p c core odd).map (fun r=>(i,g.1) :: r)) else none) else some [] else some []
def jE.f (k:Nat) (p c:Int) (core:List (List S38)) (odd:List S50) (h0 h1:Int):Option (List (Int × List Sp)) :=
  (jv.f k p c core odd h0).bind fun a=>jE.l k a.1 a.2 h1 p c core odd
set_option maxHeartbeats 8000000 in
set_option maxRecDepth 100000 in
theorem yK (n:Nat) (hn:1≤n) (k:Nat) (ag:Int) (ah:Int) (ai:Option Addr) (aj:Nat) (ac:List (List (S38))) (ak:Option Addr) (al:Nat) (ae:List (S50)) (h0 h1:Int) (xs:List (Int × List Sp))
    (w0 w:World) (B1 B2:Nat) (ap:Kd.C (Kd.slice 38 k38) w0 ai ac.length ac) (aq:ac.length≤aj) (au:Kd.C k50 w0 ak ae.length ae) (av:ae.length≤al)
    (hb0:Below w0.heap.size w0 w)
    (bk1:w.heap[B1]? = some (.cells #[.int .i64 ag,.int .i64 ah,.slice ai ac.length aj,.slice ak ae.length al] 25 (0,0)))
    (bk2:w.heap[B2]? = some (.cells #[.int .i64 h0,.int .i64 h1] 38 (0,0)))
    (h:jE.f k ag ah ac ae h0 h1=some xs) :
    afq Fence.wide n Tryz.prog 66 #[.pointer (some ⟨B1,0,none⟩),.pointer (some ⟨B2,0,none⟩)] (ae3 w.heap.size) (KpI w0.heap.size B1 B2) (fun _=>False) xs w:=by
  intro l J Jx W hW hJ hJx hY hj0;have HR2:=gL.mk ap;have ax:=gL.mk aq;have HR3:=gL.mk au;have ay:=gL.mk av;have aa:=gL.mk (gU bk1 hW);have ab:=gL.mk (gU bk2 hW);have HB:=gL.mk (hb0.trans (hW.mono hb0.size));have SZ:=gL.mk hW.size;have HJ:=gL.mk hJ;have aE:=gL.mk hJx;have HY:=gL.mk hY;have J0:=gL.mk hj0;obtain ⟨⟨i0,ok0⟩,hf,h⟩:=Option.bind_eq_some_iff.mp h;have HF:=gL.mk hf;have H:=gL.mk h;clear ap aq au av bk1 bk2 hb0 hJ hJx hY hj0 hf h hW;have hc0:=(iY aa.out 0).trans rfl;have hc1:=(iY aa.out 1).trans rfl;have hc2:=(iY aa.out 2).trans rfl;have hc3:=(iY aa.out 3).trans rfl;have hd0:=(iY ab.out 0).trans rfl;refine callsIn_of_wp Tryz.func66 rfl trivial ?_ rfl;simp only [Tryz.ntmps66,List.size_toArray,List.length_cons,List.length_nil,Nat.reduceAdd,Nat.reduceSub,Array.replicate_succ,Array.replicate_zero,List.push_toArray,List.append_toArray,List.nil_append,List.cons_append];gi_wp2_with fail;refine ⟨trivial,?_⟩;refine (callsIn_wide.2 (jv.calls k ag ah ai aj ac ak al ae h0 i0 ok0 _ (Kd.iA HR2.out HB.out) ax.out (Kd.iA HR3.out HB.out) ay.out HF.out)).mono ?_;rintro e w1 ⟨rfl,hb1⟩;have n1:=gL.mk (gU aa.out hb1);have n2:=gL.mk (gU ab.out hb1);have nb:=gL.mk (HB.out.trans (hb1.mono HB.out.size));have nj:=gL.mk ((HJ.out []).below J0.out hb1);have nz:=gL.mk (Nat.le_trans SZ.out hb1.size);clear aa ab HB J0 hc0 hc1 hc2 hc3 hd0 hb1 SZ;gi_wp2_with fail
  gi_loopg [4,5] k (fun kq v4 v5 wr=>∃ (i:Int) (ok:Bool) (pre:List (Int × List Sp)),v4=.int .i64 i∧v5=.bool ok∧gL (∃ rest,xs=pre++rest∧jE.l kq i ok h1 ag ah ac ae=some rest)∧gL (kq≤k)∧gL (wr.heap[B1]? = some (.cells #[.int .i64 ag,.int .i64 ah,.slice ai ac.length aj,.slice ak ae.length al] 25 (0,0)))∧gL (wr.heap[B2]? = some (.cells #[.int .i64 h0,.int .i64 h1] 38 (0,0)))∧gL (Below w0.heap.size w0 wr)∧gL (J pre wr)∧gL (w.heap.size≤wr.heap.size))
  case atStart=>exact ⟨i0,ok0,[],rfl,rfl,⟨xs,rfl,H.out⟩,⟨Nat.le_refl _⟩,n1,n2,nb,nj,nz⟩
  case round =>
    clear n1 n2 nb nj nz H HF;obtain ⟨i,ok,pre,rfl,rfl,HA,az,aa,ab,HB,af,SZ⟩:=hrel;obtain ⟨rest,hxs,H⟩:=HA.out;have ao:=gL.mk hxs;clear HA hxs;cases gk with
    | zero=>exact absurd H (by simp [jE.l])
    | succ k1 =>
      have hc0:=(iY aa.out 0).trans rfl;have hc1:=(iY aa.out 1).trans rfl;have hc2:=(iY aa.out 2).trans rfl;have hc3:=(iY aa.out 3).trans rfl;have hd0:=(iY ab.out 0).trans rfl;have hd1:=(iY ab.out 1).trans rfl;simp only [jE.l] at H;cases ok
      · simp at H
        subst H;gi_wp2;go_end0;exact ⟨⟨_,rfl⟩,.inl (by have:=ao.out;rw [List.append_nil] at this;rw [this];exact af.out)⟩
      · rw [if_pos rfl] at H
        obtain ⟨⟨l1,e1⟩,hg,H⟩:=Option.bind_eq_some_iff.mp H;have HG:=gL.mk hg;have H':=gL.mk H;clear hg H;gi_wp2_with fail;refine ⟨trivial,?_⟩;refine (callsIn_wide.2 (kC.calls k1 ag ah ai aj ac ak al ae i l1 e1 _ (Kd.iA HR2.out HB.out) ax.out (Kd.iA HR3.out HB.out) ay.out HG.out)).mono ?_;rintro e' w2 ⟨v,rfl,hR,hb2⟩;obtain ⟨A,c,rfl⟩:=Kd.jT hR;have hbs:∀ ad,A=some ad→w.heap.size≤ad.block:=by
          intro ad e;obtain ⟨inner,ho⟩:=Kd.aaz hR;rcases ho.2 with ⟨e2,_⟩ | ⟨g,cap,cur,e2,hg,_⟩
          · injection e2 with e2;rw [e] at e2;cases e2
          · injection e2 with e2;rw [e] at e2;cases e2;exact Nat.le_trans SZ.out hg
        have aA:=gL.mk hbs;have nz:=gL.mk (Nat.le_trans SZ.out hb2.size);clear hbs SZ;obtain ⟨_,hlc,hC⟩:=Kd.iG hR;have aB:=gL.mk hlc;have HC:=gL.mk hC;have n1:=gL.mk (gU aa.out hb2);have n2:=gL.mk (gU ab.out hb2);have nb:=gL.mk (HB.out.trans (hb2.mono HB.out.size));have nj:=gL.mk ((HJ.out pre).below af.out hb2);clear aa ab HB af hc0 hc1 hc2 hc3 hd0 hd1 hb2 hR hlc hC;have aa:=n1;have ab:=n2;have HB:=nb;have af:=nj;clear n1 n2 nb nj;have hc0:=(iY aa.out 0).trans rfl;have hc1:=(iY aa.out 1).trans rfl;have hc2:=(iY aa.out 2).trans rfl;have hc3:=(iY aa.out 3).trans rfl;have hd0:=(iY ab.out 0).trans rfl;have hd1:=(iY ab.out 1).trans rfl;have H:=H'.out;clear H';by_cases ce:e1=0
        · subst ce
          rw [if_pos rfl] at H;by_cases cl:0<l1.length
          case neg=>rw [if_neg cl] at H;cases H
          rw [if_pos cl] at H;obtain ⟨ad,e,hx0,hx1⟩:=j5 HC.out 0 (by omega) (by omega);subst e;rw [show (0:Int).toNat*2=0 from rfl,Addr.add_zero'] at hx0 hx1;by_cases cg:(gN l1 0).f0>h1
          · rw [if_pos cg] at H
            cases H
            have aC:decide (h1<(gN l1 0).f0)=true:=decide_eq_true cg;have aD:decide ((0:Int)<(l1.length:Int))=true:=decide_eq_true (by omega);have hmo:Tryz.prog.follows .mixedOrders=true:=by kernel_rfl
            clear cg;gi_wp2_with fail;refine wpIn_region_quiet_lit rfl hmo (by kernel_rfl) ?_;repeat (gi_big_quiet_step (fail))
            refine wpQuietIn_step (fun _ _ _ _=>trivial) (fun K hK => ?_);go_simp;refine hK _ ?_;clear hK K;repeat (gi_big_quiet_step (fail))
            refine wpQuietIn_nil ?_;rintro w' ⟨nq,rfl⟩;gi_wp2;refine bodyPost_ret (results_none rfl _ _ _) rfl ?_;exact ⟨⟨_,rfl⟩,.inl (by have:=ao.out;rw [List.append_nil] at this;rw [this];exact (HJ.out pre).below af.out (jf (Below.refl _ _) nq))⟩
          · rw [if_neg cg] at H
            have aC:decide (h1<(gN l1 0).f0)=false:=decide_eq_false cg;have aD:decide ((0:Int)<(l1.length:Int))=true:=decide_eq_true (by omega);have hmo:Tryz.prog.follows .mixedOrders=true:=by kernel_rfl
            clear cg;obtain ⟨⟨m1,m2⟩,hn,H⟩:=Option.bind_eq_some_iff.mp H;obtain ⟨aw,h2,rfl⟩:=Option.map_eq_some_iff.mp H;have HN:=gL.mk hn;have H2:=gL.mk h2;clear hn h2 H;have hjd:J pre w2.drew:=(HJ.out pre).below af.out (pI (Below.refl _ _));obtain ⟨fn,tmps,assign,body,hy,hR⟩:=HY.out pre (i,l1) aw #[.int .i64 i,.slice (some ad) l1.length c] w2.drew ao.out hjd ⟨_,_,rfl,aB.out,aA.out,Kd.rE HC.out⟩;have HR:=gL.mk hR;clear hR hjd;gi_wp2_with fail;refine wpIn_region_any hmo ?_;refine wpAnyIn_take (i:=0) (v := ?_) rfl rfl (by kernel_rfl) (by kernel_rfl) (by kernel_rfl) (fun _ _ _ h=>h) ⟨Or.inl ⟨by rfl,?_⟩,fun _=>rfl⟩ ?_;rotate_left
            · intro w
              go_simp
              with_reducible rfl
            refine wpAnyIn_take (i:=1) (v := ?_) rfl rfl (by kernel_rfl) (by kernel_rfl) (by kernel_rfl) (fun _ _ _ h=>h) ⟨Or.inl ⟨by rfl,?_⟩,fun _=>rfl⟩ ?_;rotate_left
            · intro w
              go_simp
              with_reducible rfl
            refine wpAnyIn_take (i:=2) (v := ?_) rfl rfl (by kernel_rfl) (by kernel_rfl) (by kernel_rfl) (fun _ _ _ h=>h) ⟨Or.inl ⟨by rfl,?_⟩,fun _=>rfl⟩ ?_;rotate_left
            · intro w
              go_simp
              with_reducible rfl
            refine wpAnyIn_take (i:=3) (v := ?_) rfl rfl (by kernel_rfl) (by kernel_rfl) (by kernel_rfl) (fun _ _ _ h=>h) ⟨Or.inl ⟨by rfl,?_⟩,fun _=>rfl⟩ ?_;rotate_left
            · intro w
              go_simp
              with_reducible rfl
            refine wpAnyIn_take (i:=4) (v := ?_) rfl rfl (by kernel_rfl) (by kernel_rfl) (by kernel_rfl) (fun _ _ _ h=>h) ⟨Or.inl ⟨by rfl,?_⟩,fun _=>rfl⟩ ?_;rotate_left
            · intro w
              go_simp
              with_reducible rfl
            refine wpAnyIn_take (i:=5) (v := ?_) rfl rfl (by kernel_rfl) (by kernel_rfl) (by kernel_rfl) (fun _ _ _ h=>h) ⟨Or.inl ⟨by rfl,?_⟩,fun _=>rfl⟩ ?_;rotate_left
            · intro w
              go_simp
              with_reducible rfl
            refine wpAnyIn_take (i:=7) (v := ?_) rfl rfl (by kernel_rfl) (by kernel_rfl) (by kernel_rfl) (fun _ _ _ h=>h) ⟨Or.inl ⟨by rfl,?_⟩,fun _=>rfl⟩ ?_;rotate_left
            · intro w
              go_simp
              with_reducible rfl
            refine wpAnyIn_ready (rs:=[6,8]) (by kernel_rfl) (by simp) ?_;refine AllReadyIn.cons rfl (fun K hK => ?_) (AllReadyIn.cons rfl (fun K hK => ?_) AllReadyIn.nil);all_goals
              go_simp
              refine hK _ _ ?_;clear hK K
            refine wpAnyIn_ready (rs:=[8]) (by kernel_rfl) (by simp) ?_;rotate_left;refine wpAnyIn_ready (rs:=[6]) (by kernel_rfl) (by simp) ?_;rotate_left;all_goals
              refine AllReadyIn.cons rfl (fun K hK => ?_) AllReadyIn.nil;go_simp;refine hK _ _ ?_;clear hK K;refine wpAnyIn_take (i:=9) (v := ?_) rfl rfl (by kernel_rfl) (by kernel_rfl) (by kernel_rfl) (fun _ _ _ h=>h) ⟨Or.inl ⟨by rfl,?_⟩,fun _=>rfl⟩ ?_;rotate_left
              · intro w
                go_simp
                with_reducible rfl
              refine wpAnyIn_take (i:=10) (v := ?_) rfl rfl (by kernel_rfl) (by kernel_rfl) (by kernel_rfl) (fun _ _ _ h=>h) ⟨Or.inl ⟨by rfl,?_⟩,fun _=>rfl⟩ ?_;rotate_left
              · intro w
                go_simp
                with_reducible rfl
              refine wpAnyIn_take (i:=11) (v := ?_) rfl rfl (by kernel_rfl) (by kernel_rfl) (by kernel_rfl) (fun _ _ _ h=>h) ⟨Or.inl ⟨by rfl,?_⟩,fun _=>rfl⟩ ?_;rotate_left
              · intro w
                go_simp
                with_reducible rfl
              refine wpAnyIn_take (i:=12) (v := ?_) rfl rfl (by kernel_rfl) (by kernel_rfl) (by kernel_rfl) (fun _ _ _ h=>h) ⟨Or.inl ⟨by rfl,?_⟩,fun _=>rfl⟩ ?_;rotate_left
              · intro w
                go_simp
                with_reducible rfl
              refine wpAnyIn_take (i:=13) (v := ?_) rfl rfl (by kernel_rfl) (by kernel_rfl) (by kernel_rfl) (fun _ _ _ h=>h) ⟨Or.inl ⟨by rfl,?_⟩,fun _=>rfl⟩ ?_;rotate_left
              · intro w
                go_simp
                with_reducible rfl
              refine wpAnyIn_take (i:=14) (v := ?_) rfl rfl (by kernel_rfl) (by kernel_rfl) (by kernel_rfl) (fun _ _ _ h=>h) ⟨Or.inl ⟨by rfl,?_⟩,fun _=>rfl⟩ ?_;rotate_left
              · intro w
                go_simp
                with_reducible rfl
              refine wpAnyIn_ready (rs:=[15]) (by kernel_rfl) (by simp) ?_;refine AllReadyIn.cons rfl (fun K hK => ?_) AllReadyIn.nil;go_simp;refine HR.out.mono ?_;rintro e W3 (⟨rfl,hj3,hk3⟩ | ⟨rfl,hj3⟩)
              · refine hK _ _ ?_
                clear hK K;refine wpAnyIn_take (i:=16) (v := ?_) rfl rfl (by kernel_rfl) (by kernel_rfl) (by kernel_rfl) (fun _ _ _ h=>h) ⟨Or.inl ⟨by rfl,?_⟩,fun _=>rfl⟩ ?_;rotate_left
                · intro w
                  go_simp
                  with_reducible rfl
                refine wpAnyIn_take (i:=17) (v := ?_) rfl rfl (by kernel_rfl) (by kernel_rfl) (by kernel_rfl) (fun _ _ _ h=>h) ⟨Or.inl ⟨by rfl,?_⟩,fun _=>rfl⟩ ?_;rotate_left
                · intro w
                  go_simp
                  with_reducible rfl
                refine wpAnyIn_done (by kernel_rfl) ?_ _;have n1:=gL.mk (hk3.2.1.trans (gQ aa.out));have n2:=gL.mk (hk3.2.2.trans (gQ ab.out));have nb:=gL.mk ((iQ HB.out).trans hk3.1);have nj:=gL.mk hj3;have nz:=gL.mk (Nat.le_trans nz.out hk3.1.size);clear aa ab HB af HC hc0 hc1 hc2 hc3 hd0 hd1 hx0 hx1 hy hj3 hk3 HR;have aa:=n1;have ab:=n2;have HB:=nb;have af:=nj;clear n1 n2 nb nj;have hc0:=(iY aa.out 0).trans rfl;have hc1:=(iY aa.out 1).trans rfl;have hc2:=(iY aa.out 2).trans rfl;have hc3:=(iY aa.out 3).trans rfl;gi_wp2_with fail;refine ⟨trivial,?_⟩;refine (callsIn_wide.2 (kF.calls k1 ag ah ai aj ac ak al ae i m1 m2 _ (Kd.iA HR2.out HB.out) ax.out (Kd.iA HR3.out HB.out) ay.out HN.out)).mono ?_;rintro e w4 ⟨rfl,hb4⟩;have n1:=gL.mk (gU aa.out hb4);have n2:=gL.mk (gU ab.out hb4);have nb:=gL.mk (HB.out.trans (hb4.mono HB.out.size));have nj:=gL.mk ((HJ.out _).below af.out hb4);have nz:=gL.mk (Nat.le_trans nz.out hb4.size);clear aa ab HB af hc0 hc1 hc2 hc3 hb4;gi_wp2;gi_roundg k1
                case measure=>exact Nat.lt_succ_self _
                case rel=>exact ⟨m1,m2,pre++[(i,l1)],rfl,rfl,⟨aw,by rw [ao.out];simp,H2.out⟩,⟨Nat.le_of_succ_le az.out⟩,n1,n2,nb,nj,nz⟩
              · refine hK _ _ ?_
                clear hK K;refine wpAnyIn_take (i:=16) (v := ?_) rfl rfl (by kernel_rfl) (by kernel_rfl) (by kernel_rfl) (fun _ _ _ h=>h) ⟨Or.inl ⟨by rfl,?_⟩,fun _=>rfl⟩ ?_;rotate_left
                · intro w
                  go_simp
                  with_reducible rfl
                refine wpAnyIn_take (i:=17) (v := ?_) rfl rfl (by kernel_rfl) (by kernel_rfl) (by kernel_rfl) (fun _ _ _ h=>h) ⟨Or.inl ⟨by rfl,?_⟩,fun _=>rfl⟩ ?_;rotate_left
                · intro w
                  go_simp
                  with_reducible rfl
                refine wpAnyIn_done (by kernel_rfl) ?_ _;gi_wp2;refine bodyPost_ret (results_none rfl _ _ _) rfl ?_;exact ⟨⟨_,rfl⟩,.inr hj3⟩
        · rw [if_neg ce] at H
          cases H
          have aF:(e1 != 0)=true:=by simpa using ce
          have aG:(e1==0)=false:=by simpa using ce
          clear ce;have hmo:Tryz.prog.follows .mixedOrders=true:=by kernel_rfl
          gi_wp2_with fail
          refine wpIn_region_quiet_lit rfl hmo (by kernel_rfl) ?_;repeat (gi_big_quiet_step (fail))
          refine wpQuietIn_step (fun _ _ _ _=>trivial) (fun K hK => ?_);go_simp;refine hK _ ?_;clear hK K;repeat (gi_big_quiet_step (fail))
          refine wpQuietIn_nil ?_;rintro w' ⟨nq,rfl⟩;gi_wp2;refine bodyPost_ret (results_none rfl _ _ _) rfl ?_;exact ⟨⟨_,rfl⟩,.inl (by have:=ao.out;rw [List.append_nil] at this;rw [this];exact (HJ.out pre).below af.out (jf (Below.refl _ _) nq))⟩
end Go.Proofs.YtmbmalkpmanaaaaGreat.P
namespace Go.Proofs.YtmbmalkpmanaaaaGreat.P
open Go.RowKit Go.Proofs.YtmbmalkpmanaaaaGreatW.iD Go.Proofs.YtmbmalkpmanaaaaGreatW.jA Go.Proofs.YtmbmalkpmanaaaaGreatW.jw
attribute [local go_sem] lS lT mG mH kU kV lU lV   -- for this text's walks alone
set_option linter.unusedVariables false
set_option linter.unusedSimpArgs false
def iO.l0:Nat→List (S38)→List (S38)→Int→Int→Option (Bool)
 | 0,_,_,_,_=>none
 | k+1,x0,x5,x6,x7=>if x7<x6 then (if 0≤x7 then (if x7<(x5.length:Int) then ((jQ.f ((gN x5 x7).f0)).bind fun t109=>(if t109=true then ((jQ.f ((gN x5 x7).f1)).bind fun aa=>(if aa=true then (if ((gN x5 x7).f0)>((gN x5 x7).f1) then (some false) else (if x7>0 then (if 0≤(wrap64 (x7 - 1)) then (if (wrap64 (x7 - 1))<(x0.length:Int) then (if ((gN x5 x7).f0)<(wrap64 (((gN x0 (wrap64 (x7 - 1))).f1)+2)) then (some false) else (iO.l0 k x0 x5 x6 (wrap64 (x7+1)))) else (none)) else (none)) else (iO.l0 k x0 x5 x6 (wrap64 (x7+1))))) else (some false))) else (some false))) else (none)) else (none)) else (some true)
def iO.f (k:Nat) (l0:List (S38)):Option (Bool):=iO.l0 k l0 l0 (l0.length:Int) 0
theorem iO.kT:∀ k,(∀ y0 y1 y2 y3,LeO (iO.l0 k y0 y1 y2 y3) (iO.l0 (k+1) y0 y1 y2 y3))
 | 0=>fun _ _ _ _ r h=>by simp [iO.l0] at h
 | k+1=>by
  have aa:=iO.kT k
  ·intro y0 y1 y2 y3
   unfold iO.l0;exact mo (an aa trivial)
theorem iO.mono:∀ a0 k,LeO (iO.f k a0) (iO.f (k+1) a0):=by
 intro a0 k;have aa:=iO.kT k;unfold iO.f;exact mo (an aa trivial)
def iO.T4:Bool × List (List Nat × List Nat):=(true,[([],[]),([0],[0]),([1],[1]),([2],[2]),([3,2],[3]),([4],[4]),([5,4],[4,5]),([6,4,4],[4,6]),([7,4],[4,7]),([4,8],[4,8]),([9,7],[9]),([10],[10]),([11,10],[10,11]),([10],[10]),([13,10],[10,13]),([12,14,10],[10,12,14]),([10,15],[10,15]),([16,10],[16]),([17],[17]),([18,17],[17,18]),([19,17,17],[17,19]),([20],[20]),([21,20],[20,21]),([20],[20]),([20],[20]),([24,20],[20,24]),([23,25,20],[20,23,25]),([26,20],[20,26]),([27,20],[20,27]),([28,20],[20,28]),([22,29,20],[20,22,29]),([20,30,17],[17,20,30]),([17,31],[17,31])])
def iO.B4:List Nat:=[0,1,3,7,15,31,63,127,255,511,1023,2047,4095,2047,10239,32767,65535,131071,262143,524287,1048575,2097151,4194303,2097151,2097151,18874367,60817407,127926271,262143999,530579455,1073741823,2147483647,4294967295]
theorem iO.adU:qc .any (opsOf Tryz.f37 4)=iO.T4:=by kernel_rfl
theorem iO.aae:l8 iO.T4.2 iO.B4=true:=by kernel_rfl
set_option maxHeartbeats 8000000 in
set_option maxRecDepth 100000 in
theorem iO.calls (k:Nat) (A0:Option Addr) (c0:Nat) (l0:List (S38)) (r:Bool) (w:World) (hr0:Kd.C k38 w A0 l0.length l0) (hc0:l0.length≤c0) (h:iO.f k l0=some r) :
 Calls Tryz.prog 37 #[.slice A0 l0.length c0] w fun e w'=>e=.returned (.bool r)∧Below w.heap.size w w':=by
 have bv:=Tryz.underlying38;have aE:=am hr0;have bB:=am hc0;clear hr0 hc0;have HB:=am (Below.refl w.heap.size w);have H:(iO.l0 k l0 l0 (l0.length:Int) 0)=some r:=h;clear h;have H':=am H;clear H;go_enter Tryz.func37,Tryz.ntmps37;go_wp2;go_loopg [7] k (fun kq v7 w'=>∃ (ab:Int),v7=.int .i64 ab∧gL (iO.l0 kq l0 l0 (l0.length:Int) ab=some r)∧gL (kq≤k)∧gL (Below w.heap.size w w'))
 case atStart=>exact ⟨(0),sm,H',⟨Nat.le_refl _⟩,⟨bl HB.out⟩⟩
 case round =>
  clear H';obtain ⟨ab,rfl,HA,aI,HB⟩:=hrel;cases gk with
  | zero=>exact absurd HA.out (by simp [iO.l0])
  | succ k1 =>
   have H:=HA.out;clear HA;simp only [iO.l0] at H;by_cases c2:ab<(l0.length:Int)
   ·rw [if_pos c2] at H
    have aT:=decide_eq_true c2;clear c2;by_cases c3:0≤ab
    case neg=>rw [if_neg c3] at H;exact absurd H (by simp)
    rw [if_pos c3] at H;have bw:=decide_eq_true c3;clear c3;by_cases c4:ab<(l0.length:Int)
    case neg=>rw [if_neg c4] at H;exact absurd H (by simp)
    rw [if_pos c4] at H;have bA:=decide_eq_true c4;clear c4;replace H:=Option.bind_eq_some_iff.mp H;obtain ⟨t109,aR,H⟩:=H;try dsimp only at H
    have A5:=am aR;clear aR;by_cases c6:t109=true
    ·subst c6
     have H1:((jQ.f ((gN l0 ab).f1)).bind fun aG=>(if aG=true then (if ((gN l0 ab).f0)>((gN l0 ab).f1) then (some false) else (if ab>0 then (if 0≤(wrap64 (ab - 1)) then (if (wrap64 (ab - 1))<(l0.length:Int) then (if ((gN l0 ab).f0)<(wrap64 (((gN l0 (wrap64 (ab - 1))).f1)+2)) then (some false) else (iO.l0 k1 l0 l0 (l0.length:Int) (wrap64 (ab+1)))) else (none)) else (none)) else (iO.l0 k1 l0 l0 (l0.length:Int) (wrap64 (ab+1))))) else (some false)))=some r:=by rw [if_pos rfl] at H;exact H
     clear H;have H:=H1;clear H1;replace H:=Option.bind_eq_some_iff.mp H;obtain ⟨aG,aS,H⟩:=H;try dsimp only at H
     have A7:=am aS;clear aS;by_cases c8:aG=true
     ·subst c8
      have H1:(if ((gN l0 ab).f0)>((gN l0 ab).f1) then (some false) else (if ab>0 then (if 0≤(wrap64 (ab - 1)) then (if (wrap64 (ab - 1))<(l0.length:Int) then (if ((gN l0 ab).f0)<(wrap64 (((gN l0 (wrap64 (ab - 1))).f1)+2)) then (some false) else (iO.l0 k1 l0 l0 (l0.length:Int) (wrap64 (ab+1)))) else (none)) else (none)) else (iO.l0 k1 l0 l0 (l0.length:Int) (wrap64 (ab+1)))))=some r:=by rw [if_pos rfl] at H;exact H
      clear H;have H:=H1;clear H1;by_cases c9:((gN l0 ab).f0)>((gN l0 ab).f1)
      ·rw [if_pos c9] at H
       have aU:decide (((gN l0 ab).f1)<((gN l0 ab).f0))=true:=decide_eq_true c9;clear c9;obtain rfl:=Option.some.inj H;have aj:0≤(ab:Int):=of_decide_eq_true asm;have ak:ab<(l0.length:Int):=of_decide_eq_true asm;obtain ⟨aw,aA,af,ag⟩:=j5 aE.out ab aj ak;cases aA;replace af:=xc HB af;replace ag:=xc HB ag;replace aj:=eq_true aj;replace ak:=eq_true ak;try go_wp2_with (first | ((with_reducible refine iC (N:=4) rfl ?_);refine bx 4 38 #[.int .i64 0,.int .i64 0] ?_;intro ae hg aJ aq hb;have ac:=am (aq);have az:=am ((bz hg HB.out:w.heap.size≤ae));have ao:=az;replace HB:=xb HB hb;clear hb aq hg;obtain ⟨aV,aW,aX,aY⟩:=b2 ac.out))
       have au:gL (((aJ.setCell ⟨ae,0,none⟩ (.int .i64 ((gN l0 ab).f0))).setCell ⟨ae,1,none⟩ (.int .i64 ((gN l0 ab).f1))).heap[ae]? = some (.cells #[.int .i64 ((gN l0 ab).f0),.int .i64 ((gN l0 ab).f1)] 38 (0,0))):=⟨by (with_reducible repeat (first | refine gV ?_ _ | refine gQ ?_ | refine gM ?_ _));refine iT (cs:=#[.int .i64 ((gN l0 ab).f0),.int .i64 0]) ?_ 1 _ rfl;(with_reducible repeat (first | refine gV ?_ _ | refine gQ ?_ | refine gM ?_ _));refine iT (cs:=#[.int .i64 0,.int .i64 0]) ?_ 0 _ rfl;(with_reducible repeat (first | refine gV ?_ _ | refine gQ ?_ | refine gM ?_ _));exact ac.out⟩;have av:gL (Below w.heap.size w ((aJ.setCell ⟨ae,0,none⟩ (.int .i64 ((gN l0 ab).f0))).setCell ⟨ae,1,none⟩ (.int .i64 ((gN l0 ab).f1)))):=⟨bl1 HB.out ao.out⟩;(try clear ac);(try clear HB);generalize ((aJ.setCell ⟨ae,0,none⟩ (.int .i64 ((gN l0 ab).f0))).setCell ⟨ae,1,none⟩ (.int .i64 ((gN l0 ab).f1)))=bk at au av ⊢;have ac:=au;have HB:=av;clear au av;replace ac:=am (gQ ac.out);replace HB:=am (iQ HB.out);refine lu (n:=33) (S:=fun w'=>w'.cell? ⟨ae,0,none⟩=some (.int .i64 ((gN l0 ab).f0))∧w'.cell? ⟨ae,1,none⟩=some (.int .i64 ((gN l0 ab).f1))) (ds:=[]) (rs false [33]) (by kernel_rfl) rfl rfl ⟨bc ac.out 0,bc ac.out 1⟩ (fun hHeld => ?_);refine jK iO.adU iO.aae (fun aa ap => ?_);generalize bk.drew=bC at ac HB hHeld ⊢;refine px 0 12 (rs true [1,32]) aa.out ?_;refine tx 1 13 (rs true [2,31]) aa.out ap.out hHeld ?_
       refine ny (i:=2) (N:=some 14) (rs true [3,30]) rfl rfl (jM aa.out (by kernel_rfl)) (by decide) (fun K hK => ?_);refine lC Tryz.func32 (by kernel_rfl) rfl #[.int .i64 ((gN l0 ab).f0)] (by rfl) rfl rfl ar ?_;with_reducible refine (jQ.calls ((gN l0 ab).f0) true _ A5.out).mono ?_
       rintro e w' ⟨rfl,⟨nd,rfl⟩⟩;refine ⟨_,rfl,?_⟩;refine hK.out _ _ ⟨bc ac.out 0,bc ac.out 1⟩ (fun hHeld => ?_);clear hK K;refine nx 14 ?_;refine px 3 15 (rs true [4,29]) aa.out ?_;refine px 4 16 (rs true [5,28]) aa.out ?_;refine px 5 17 (rs true [6,27]) aa.out ?_;refine tx 6 18 (rs true [7,26]) aa.out ap.out hHeld ?_;refine ny (i:=7) (N:=some 19) (rs true [8,25]) rfl rfl (jM aa.out (by kernel_rfl)) (by decide) (fun K hK => ?_);refine lC Tryz.func32 (by kernel_rfl) rfl #[.int .i64 ((gN l0 ab).f1)] (by rfl) rfl rfl ar ?_;with_reducible refine (jQ.calls ((gN l0 ab).f1) true _ A7.out).mono ?_
       rintro e w' ⟨rfl,⟨nd,rfl⟩⟩;refine ⟨_,rfl,?_⟩;refine hK.out _ _ ⟨bc ac.out 0,bc ac.out 1⟩ (fun hHeld => ?_);clear hK K;refine nx 19 ?_;refine px 8 20 (rs true [9,24]) aa.out ?_;refine px 9 21 (rs true [10,23]) aa.out ?_;refine px 10 22 (rs true [11,22]) aa.out ?_;refine px 11 23 (rs true [12,21]) aa.out ?_;refine px 13 25 (rs true [12,1,1,19]) aa.out ?_;refine tx 12 24 (rs true [14,19]) aa.out ap.out hHeld ?_;refine tx 14 26 (rs true [15,18]) aa.out ap.out hHeld ?_;refine px 15 27 (rs true [16,17]) aa.out ?_;refine px 16 28 (rs true [17,16]) aa.out ?_;refine px 17 29 (rs true [18,15]) aa.out ?_;refine pu 18 30 (rs true [19,14]) aa.out ?_;refine pu 19 31 (rs true [20,13]) aa.out ?_;refine pu 20 32 (rs true [21,12]) aa.out ?_;refine pu 21 33 (rs true [22,11]) aa.out ?_;refine pu 22 34 (rs true [23,10]) aa.out ?_;refine pu 23 35 (rs true [24,9]) aa.out ?_;refine pu 24 36 (rs true [25,8]) aa.out ?_;refine pu 25 37 (rs true [26,7]) aa.out ?_;refine pu 26 38 (rs true [27,6]) aa.out ?_;refine pu 27 39 (rs true [28,5]) aa.out ?_;refine pu 28 40 (rs true [29,4]) aa.out ?_;refine pu 29 41 (rs true [30,3]) aa.out ?_;refine pu 30 42 (rs true [31,2]) aa.out ?_;refine pu 31 43 (rs true [32,1]) aa.out ?_;refine px 32 44 (rs true [33]) aa.out ?_;refine mU (kI aa.out (by kernel_rfl)) ?_;try go_wp2
       go_ret
       exact ⟨rt,bl1 HB.out ao.out⟩
      ·rw [if_neg c9] at H
       have aU:decide (((gN l0 ab).f1)<((gN l0 ab).f0))=false:=decide_eq_false c9;clear c9;by_cases c14:ab>0
       ·rw [if_pos c14] at H
        have aP:decide (0<ab)=true:=decide_eq_true c14;clear c14;obtain ⟨al,aB⟩:∃ j_:Int,(wrap64 (ab - 1))=j_:=⟨_,rfl⟩;replace H:(if 0≤(al) then (if (al)<(l0.length:Int) then (if ((gN l0 ab).f0)<(wrap64 (((gN l0 (al)).f1)+2)) then (some false) else (iO.l0 k1 l0 l0 (l0.length:Int) (wrap64 (ab+1)))) else (none)) else (none))=some r:=by first | (rw [aB] at H;exact H) | (simp only [aB] at H ⊢;exact H)
        (try rw [aB] at A5)
        (try rw [aB] at A7)
        have bm:(IntKind.i64.wrap (ab - 1))=al:=(nA _).trans aB;by_cases c16:0≤(al)
        case neg=>rw [if_neg c16] at H;exact absurd H (by simp)
        rw [if_pos c16] at H;have bs:=decide_eq_true c16;clear c16;by_cases c17:(al)<(l0.length:Int)
        case neg=>rw [if_neg c17] at H;exact absurd H (by simp)
        rw [if_pos c17] at H;have bu:=decide_eq_true c17;clear c17;by_cases c18:((gN l0 ab).f0)<(wrap64 (((gN l0 (al)).f1)+2))
        ·rw [if_pos c18] at H
         have aQ:=decide_eq_true c18;clear c18;obtain rfl:=Option.some.inj H;have aj:0≤(ab:Int):=of_decide_eq_true asm;have ak:ab<(l0.length:Int):=of_decide_eq_true asm;obtain ⟨aw,aA,af,ag⟩:=j5 aE.out ab aj ak;cases aA;replace af:=xc HB af;replace ag:=xc HB ag;replace aj:=eq_true aj;replace ak:=eq_true ak;try go_wp2_with (first | ((with_reducible refine iC (N:=4) rfl ?_);refine bx 4 38 #[.int .i64 0,.int .i64 0] ?_;intro ae hg aK aq hb;have ac:=am (aq);have az:=am ((bz hg HB.out:w.heap.size≤ae));have ao:=az;replace HB:=xb HB hb;clear hb aq hg;obtain ⟨aZ,a0,a1,a2⟩:=b2 ac.out))
         have au:gL (((aK.setCell ⟨ae,0,none⟩ (.int .i64 ((gN l0 ab).f0))).setCell ⟨ae,1,none⟩ (.int .i64 ((gN l0 ab).f1))).heap[ae]? = some (.cells #[.int .i64 ((gN l0 ab).f0),.int .i64 ((gN l0 ab).f1)] 38 (0,0))):=⟨by (with_reducible repeat (first | refine gV ?_ _ | refine gQ ?_ | refine gM ?_ _));refine iT (cs:=#[.int .i64 ((gN l0 ab).f0),.int .i64 0]) ?_ 1 _ rfl;(with_reducible repeat (first | refine gV ?_ _ | refine gQ ?_ | refine gM ?_ _));refine iT (cs:=#[.int .i64 0,.int .i64 0]) ?_ 0 _ rfl;(with_reducible repeat (first | refine gV ?_ _ | refine gQ ?_ | refine gM ?_ _));exact ac.out⟩;have av:gL (Below w.heap.size w ((aK.setCell ⟨ae,0,none⟩ (.int .i64 ((gN l0 ab).f0))).setCell ⟨ae,1,none⟩ (.int .i64 ((gN l0 ab).f1)))):=⟨bl1 HB.out ao.out⟩;(try clear ac);(try clear HB);generalize ((aK.setCell ⟨ae,0,none⟩ (.int .i64 ((gN l0 ab).f0))).setCell ⟨ae,1,none⟩ (.int .i64 ((gN l0 ab).f1)))=bn at au av ⊢;have ac:=au;have HB:=av;clear au av;replace ac:=am (gQ ac.out);replace HB:=am (iQ HB.out);have aC:0≤((al):Int):=of_decide_eq_true asm;have aD:(al)<(l0.length:Int):=of_decide_eq_true asm;obtain ⟨aF,aH,ax,ay⟩:=j5 aE.out (al) aC aD;have ah:=ay;have ai:=ax;obtain rfl:aw=aF:=(by injection aH);replace ax:=xc HB ax;replace ay:=xc HB ay;replace aC:=eq_true aC;replace aD:=eq_true aD
         refine lu (n:=33) (S:=fun w'=>w'.cell? ⟨ae,0,none⟩=some (.int .i64 ((gN l0 ab).f0))∧w'.cell? ⟨ae,1,none⟩=some (.int .i64 ((gN l0 ab).f1))∧w'.cell? (aw.add (((al)).toNat*2))=some (.int .i64 ((gN l0 (al)).f0))∧w'.cell? ⟨(aw.add (((al)).toNat*2)).block,(aw.add (((al)).toNat*2)).off+1,none⟩=some (.int .i64 ((gN l0 (al)).f1))) (ds:=[]) (rs false [33]) (by kernel_rfl) rfl rfl ⟨bc ac.out 0,bc ac.out 1,((HB.out.cell (World.block_lt_of_cell? w _ ai)).trans ai),((HB.out.cell (World.block_lt_of_cell? w _ ah)).trans ah)⟩ (fun hHeld => ?_);refine jK iO.adU iO.aae (fun aa ap => ?_);generalize bn.drew=bD at ac HB ax ay hHeld ⊢;refine px 0 12 (rs true [1,32]) aa.out ?_;refine tx 1 13 (rs true [2,31]) aa.out ap.out hHeld ?_;refine ny (i:=2) (N:=some 14) (rs true [3,30]) rfl rfl (jM aa.out (by kernel_rfl)) (by decide) (fun K hK => ?_);refine lC Tryz.func32 (by kernel_rfl) rfl #[.int .i64 ((gN l0 ab).f0)] (by rfl) rfl rfl ar ?_;with_reducible refine (jQ.calls ((gN l0 ab).f0) true _ A5.out).mono ?_
         rintro e w' ⟨rfl,⟨nd,rfl⟩⟩;refine ⟨_,rfl,?_⟩;refine hK.out _ _ ⟨bc ac.out 0,bc ac.out 1,((HB.out.cell (World.block_lt_of_cell? w _ ai)).trans ai),((HB.out.cell (World.block_lt_of_cell? w _ ah)).trans ah)⟩ (fun hHeld => ?_);clear hK K;refine nx 14 ?_;refine px 3 15 (rs true [4,29]) aa.out ?_;refine px 4 16 (rs true [5,28]) aa.out ?_;refine px 5 17 (rs true [6,27]) aa.out ?_;refine tx 6 18 (rs true [7,26]) aa.out ap.out hHeld ?_;refine ny (i:=7) (N:=some 19) (rs true [8,25]) rfl rfl (jM aa.out (by kernel_rfl)) (by decide) (fun K hK => ?_);refine lC Tryz.func32 (by kernel_rfl) rfl #[.int .i64 ((gN l0 ab).f1)] (by rfl) rfl rfl ar ?_;with_reducible refine (jQ.calls ((gN l0 ab).f1) true _ A7.out).mono ?_
         rintro e w' ⟨rfl,⟨nd,rfl⟩⟩;refine ⟨_,rfl,?_⟩;refine hK.out _ _ ⟨bc ac.out 0,bc ac.out 1,((HB.out.cell (World.block_lt_of_cell? w _ ai)).trans ai),((HB.out.cell (World.block_lt_of_cell? w _ ah)).trans ah)⟩ (fun hHeld => ?_);clear hK K;refine nx 19 ?_;refine px 8 20 (rs true [9,24]) aa.out ?_;refine px 9 21 (rs true [10,23]) aa.out ?_;refine px 10 22 (rs true [11,22]) aa.out ?_;refine px 11 23 (rs true [12,21]) aa.out ?_;refine px 13 25 (rs true [12,1,1,19]) aa.out ?_;refine tx 12 24 (rs true [14,19]) aa.out ap.out hHeld ?_;refine tx 14 26 (rs true [15,18]) aa.out ap.out hHeld ?_;refine px 15 27 (rs true [16,17]) aa.out ?_;refine px 16 28 (rs true [17,16]) aa.out ?_;refine px 17 29 (rs true [18,15]) aa.out ?_;refine px 18 30 (rs true [19,14]) aa.out ?_;refine px 19 31 (rs true [20,13]) aa.out ?_;refine px 20 32 (rs true [21,12]) aa.out ?_;refine px 21 33 (rs true [22,11]) aa.out ?_;refine px 23 35 (rs true [22,1,1,9]) aa.out ?_;refine px 24 36 (rs true [22,1,2,8]) aa.out ?_;refine px 25 37 (rs true [22,1,3,7]) aa.out ?_;refine px 26 38 (rs true [22,1,4,6]) aa.out ?_;refine px 27 39 (rs true [22,1,5,5]) aa.out ?_;refine tx 22 34 (rs true [28,5]) aa.out ap.out hHeld ?_;refine tx 28 40 (rs true [29,4]) aa.out ap.out hHeld ?_;refine px 29 41 (rs true [30,3]) aa.out ?_;refine px 30 42 (rs true [31,2]) aa.out ?_;refine px 31 43 (rs true [32,1]) aa.out ?_;refine px 32 44 (rs true [33]) aa.out ?_;refine mU (kI aa.out (by kernel_rfl)) ?_;try go_wp2
         go_ret
         exact ⟨by first | rfl | (simp [jV,jW] <;> rfl) | (simp only [← aB];first | rfl | (simp [jV,jW] <;> rfl)) | (simp [*,jV,jW] <;> rfl),bl1 HB.out ao.out⟩
        ·rw [if_neg c18] at H
         have aQ:=decide_eq_false c18;clear c18;have H':=am H;clear H;have aj:0≤(ab:Int):=of_decide_eq_true asm;have ak:ab<(l0.length:Int):=of_decide_eq_true asm;obtain ⟨aw,aA,af,ag⟩:=j5 aE.out ab aj ak;cases aA;replace af:=xc HB af;replace ag:=xc HB ag;replace aj:=eq_true aj;replace ak:=eq_true ak;try go_wp2_with (first | ((with_reducible refine iC (N:=4) rfl ?_);refine bx 4 38 #[.int .i64 0,.int .i64 0] ?_;intro ae hg aL aq hb;have ac:=am (aq);have az:=am ((bz hg HB.out:w.heap.size≤ae));have ao:=az;replace HB:=xb HB hb;clear hb aq hg;obtain ⟨a3,a4,a5,a6⟩:=b2 ac.out))
         have au:gL (((aL.setCell ⟨ae,0,none⟩ (.int .i64 ((gN l0 ab).f0))).setCell ⟨ae,1,none⟩ (.int .i64 ((gN l0 ab).f1))).heap[ae]? = some (.cells #[.int .i64 ((gN l0 ab).f0),.int .i64 ((gN l0 ab).f1)] 38 (0,0))):=⟨by (with_reducible repeat (first | refine gV ?_ _ | refine gQ ?_ | refine gM ?_ _));refine iT (cs:=#[.int .i64 ((gN l0 ab).f0),.int .i64 0]) ?_ 1 _ rfl;(with_reducible repeat (first | refine gV ?_ _ | refine gQ ?_ | refine gM ?_ _));refine iT (cs:=#[.int .i64 0,.int .i64 0]) ?_ 0 _ rfl;(with_reducible repeat (first | refine gV ?_ _ | refine gQ ?_ | refine gM ?_ _));exact ac.out⟩;have av:gL (Below w.heap.size w ((aL.setCell ⟨ae,0,none⟩ (.int .i64 ((gN l0 ab).f0))).setCell ⟨ae,1,none⟩ (.int .i64 ((gN l0 ab).f1)))):=⟨bl1 HB.out ao.out⟩;(try clear ac);(try clear HB);generalize ((aL.setCell ⟨ae,0,none⟩ (.int .i64 ((gN l0 ab).f0))).setCell ⟨ae,1,none⟩ (.int .i64 ((gN l0 ab).f1)))=bo at au av ⊢;have ac:=au;have HB:=av;clear au av;replace ac:=am (gQ ac.out);replace HB:=am (iQ HB.out);have aC:0≤((al):Int):=of_decide_eq_true asm;have aD:(al)<(l0.length:Int):=of_decide_eq_true asm;obtain ⟨aF,aH,ax,ay⟩:=j5 aE.out (al) aC aD;have ah:=ay;have ai:=ax;obtain rfl:aw=aF:=(by injection aH);replace ax:=xc HB ax;replace ay:=xc HB ay;replace aC:=eq_true aC;replace aD:=eq_true aD
         refine lu (n:=33) (S:=fun w'=>w'.cell? ⟨ae,0,none⟩=some (.int .i64 ((gN l0 ab).f0))∧w'.cell? ⟨ae,1,none⟩=some (.int .i64 ((gN l0 ab).f1))∧w'.cell? (aw.add (((al)).toNat*2))=some (.int .i64 ((gN l0 (al)).f0))∧w'.cell? ⟨(aw.add (((al)).toNat*2)).block,(aw.add (((al)).toNat*2)).off+1,none⟩=some (.int .i64 ((gN l0 (al)).f1))) (ds:=[]) (rs false [33]) (by kernel_rfl) rfl rfl ⟨bc ac.out 0,bc ac.out 1,((HB.out.cell (World.block_lt_of_cell? w _ ai)).trans ai),((HB.out.cell (World.block_lt_of_cell? w _ ah)).trans ah)⟩ (fun hHeld => ?_);refine jK iO.adU iO.aae (fun aa ap => ?_);generalize bo.drew=bE at ac HB ax ay hHeld ⊢;refine px 0 12 (rs true [1,32]) aa.out ?_;refine tx 1 13 (rs true [2,31]) aa.out ap.out hHeld ?_;refine ny (i:=2) (N:=some 14) (rs true [3,30]) rfl rfl (jM aa.out (by kernel_rfl)) (by decide) (fun K hK => ?_);refine lC Tryz.func32 (by kernel_rfl) rfl #[.int .i64 ((gN l0 ab).f0)] (by rfl) rfl rfl ar ?_;with_reducible refine (jQ.calls ((gN l0 ab).f0) true _ A5.out).mono ?_
         rintro e w' ⟨rfl,⟨nd,rfl⟩⟩;refine ⟨_,rfl,?_⟩;refine hK.out _ _ ⟨bc ac.out 0,bc ac.out 1,((HB.out.cell (World.block_lt_of_cell? w _ ai)).trans ai),((HB.out.cell (World.block_lt_of_cell? w _ ah)).trans ah)⟩ (fun hHeld => ?_);clear hK K;refine nx 14 ?_;refine px 3 15 (rs true [4,29]) aa.out ?_;refine px 4 16 (rs true [5,28]) aa.out ?_;refine px 5 17 (rs true [6,27]) aa.out ?_;refine tx 6 18 (rs true [7,26]) aa.out ap.out hHeld ?_;refine ny (i:=7) (N:=some 19) (rs true [8,25]) rfl rfl (jM aa.out (by kernel_rfl)) (by decide) (fun K hK => ?_);refine lC Tryz.func32 (by kernel_rfl) rfl #[.int .i64 ((gN l0 ab).f1)] (by rfl) rfl rfl ar ?_;with_reducible refine (jQ.calls ((gN l0 ab).f1) true _ A7.out).mono ?_
         rintro e w' ⟨rfl,⟨nd,rfl⟩⟩;refine ⟨_,rfl,?_⟩;refine hK.out _ _ ⟨bc ac.out 0,bc ac.out 1,((HB.out.cell (World.block_lt_of_cell? w _ ai)).trans ai),((HB.out.cell (World.block_lt_of_cell? w _ ah)).trans ah)⟩ (fun hHeld => ?_);clear hK K;refine nx 19 ?_;refine px 8 20 (rs true [9,24]) aa.out ?_;refine px 9 21 (rs true [10,23]) aa.out ?_;refine px 10 22 (rs true [11,22]) aa.out ?_;refine px 11 23 (rs true [12,21]) aa.out ?_;refine px 13 25 (rs true [12,1,1,19]) aa.out ?_;refine tx 12 24 (rs true [14,19]) aa.out ap.out hHeld ?_;refine tx 14 26 (rs true [15,18]) aa.out ap.out hHeld ?_;refine px 15 27 (rs true [16,17]) aa.out ?_;refine px 16 28 (rs true [17,16]) aa.out ?_;refine px 17 29 (rs true [18,15]) aa.out ?_;refine px 18 30 (rs true [19,14]) aa.out ?_;refine px 19 31 (rs true [20,13]) aa.out ?_;refine px 20 32 (rs true [21,12]) aa.out ?_;refine px 21 33 (rs true [22,11]) aa.out ?_;refine px 23 35 (rs true [22,1,1,9]) aa.out ?_;refine px 24 36 (rs true [22,1,2,8]) aa.out ?_;refine px 25 37 (rs true [22,1,3,7]) aa.out ?_;refine px 26 38 (rs true [22,1,4,6]) aa.out ?_;refine px 27 39 (rs true [22,1,5,5]) aa.out ?_;refine tx 22 34 (rs true [28,5]) aa.out ap.out hHeld ?_;refine tx 28 40 (rs true [29,4]) aa.out ap.out hHeld ?_;refine px 29 41 (rs true [30,3]) aa.out ?_;refine px 30 42 (rs true [31,2]) aa.out ?_;refine px 31 43 (rs true [32,1]) aa.out ?_;refine px 32 44 (rs true [33]) aa.out ?_;refine mU (kI aa.out (by kernel_rfl)) ?_;try go_wp2
         go_roundg k1
         case measure=>have:=aI.out;omega
         case rel=>exact ⟨(wrap64 (ab+1)),sm,H',⟨by have:=aI.out;omega⟩,⟨bl1 HB.out ao.out⟩⟩
       ·rw [if_neg c14] at H
        have aP:decide (0<ab)=false:=decide_eq_false c14;clear c14;have H':=am H;clear H;have aj:0≤(ab:Int):=of_decide_eq_true asm;have ak:ab<(l0.length:Int):=of_decide_eq_true asm;obtain ⟨aw,aA,af,ag⟩:=j5 aE.out ab aj ak;cases aA;replace af:=xc HB af;replace ag:=xc HB ag;replace aj:=eq_true aj;replace ak:=eq_true ak;try go_wp2_with (first | ((with_reducible refine iC (N:=4) rfl ?_);refine bx 4 38 #[.int .i64 0,.int .i64 0] ?_;intro ae hg aM aq hb;have ac:=am (aq);have az:=am ((bz hg HB.out:w.heap.size≤ae));have ao:=az;replace HB:=xb HB hb;clear hb aq hg;obtain ⟨a7,a8,a9,ba⟩:=b2 ac.out))
        have au:gL (((aM.setCell ⟨ae,0,none⟩ (.int .i64 ((gN l0 ab).f0))).setCell ⟨ae,1,none⟩ (.int .i64 ((gN l0 ab).f1))).heap[ae]? = some (.cells #[.int .i64 ((gN l0 ab).f0),.int .i64 ((gN l0 ab).f1)] 38 (0,0))):=⟨by (with_reducible repeat (first | refine gV ?_ _ | refine gQ ?_ | refine gM ?_ _));refine iT (cs:=#[.int .i64 ((gN l0 ab).f0),.int .i64 0]) ?_ 1 _ rfl;(with_reducible repeat (first | refine gV ?_ _ | refine gQ ?_ | refine gM ?_ _));refine iT (cs:=#[.int .i64 0,.int .i64 0]) ?_ 0 _ rfl;(with_reducible repeat (first | refine gV ?_ _ | refine gQ ?_ | refine gM ?_ _));exact ac.out⟩;have av:gL (Below w.heap.size w ((aM.setCell ⟨ae,0,none⟩ (.int .i64 ((gN l0 ab).f0))).setCell ⟨ae,1,none⟩ (.int .i64 ((gN l0 ab).f1)))):=⟨bl1 HB.out ao.out⟩;(try clear ac);(try clear HB);generalize ((aM.setCell ⟨ae,0,none⟩ (.int .i64 ((gN l0 ab).f0))).setCell ⟨ae,1,none⟩ (.int .i64 ((gN l0 ab).f1)))=bp at au av ⊢;have ac:=au;have HB:=av;clear au av;replace ac:=am (gQ ac.out);replace HB:=am (iQ HB.out);refine lu (n:=33) (S:=fun w'=>w'.cell? ⟨ae,0,none⟩=some (.int .i64 ((gN l0 ab).f0))∧w'.cell? ⟨ae,1,none⟩=some (.int .i64 ((gN l0 ab).f1))) (ds:=[]) (rs false [33]) (by kernel_rfl) rfl rfl ⟨bc ac.out 0,bc ac.out 1⟩ (fun hHeld => ?_);refine jK iO.adU iO.aae (fun aa ap => ?_);generalize bp.drew=bF at ac HB hHeld ⊢;refine px 0 12 (rs true [1,32]) aa.out ?_;refine tx 1 13 (rs true [2,31]) aa.out ap.out hHeld ?_
        refine ny (i:=2) (N:=some 14) (rs true [3,30]) rfl rfl (jM aa.out (by kernel_rfl)) (by decide) (fun K hK => ?_);refine lC Tryz.func32 (by kernel_rfl) rfl #[.int .i64 ((gN l0 ab).f0)] (by rfl) rfl rfl ar ?_;with_reducible refine (jQ.calls ((gN l0 ab).f0) true _ A5.out).mono ?_
        rintro e w' ⟨rfl,⟨nd,rfl⟩⟩;refine ⟨_,rfl,?_⟩;refine hK.out _ _ ⟨bc ac.out 0,bc ac.out 1⟩ (fun hHeld => ?_);clear hK K;refine nx 14 ?_;refine px 3 15 (rs true [4,29]) aa.out ?_;refine px 4 16 (rs true [5,28]) aa.out ?_;refine px 5 17 (rs true [6,27]) aa.out ?_;refine tx 6 18 (rs true [7,26]) aa.out ap.out hHeld ?_;refine ny (i:=7) (N:=some 19) (rs true [8,25]) rfl rfl (jM aa.out (by kernel_rfl)) (by decide) (fun K hK => ?_);refine lC Tryz.func32 (by kernel_rfl) rfl #[.int .i64 ((gN l0 ab).f1)] (by rfl) rfl rfl ar ?_;with_reducible refine (jQ.calls ((gN l0 ab).f1) true _ A7.out).mono ?_
        rintro e w' ⟨rfl,⟨nd,rfl⟩⟩;refine ⟨_,rfl,?_⟩;refine hK.out _ _ ⟨bc ac.out 0,bc ac.out 1⟩ (fun hHeld => ?_);clear hK K;refine nx 19 ?_;refine px 8 20 (rs true [9,24]) aa.out ?_;refine px 9 21 (rs true [10,23]) aa.out ?_;refine px 10 22 (rs true [11,22]) aa.out ?_;refine px 11 23 (rs true [12,21]) aa.out ?_;refine px 13 25 (rs true [12,1,1,19]) aa.out ?_;refine tx 12 24 (rs true [14,19]) aa.out ap.out hHeld ?_;refine tx 14 26 (rs true [15,18]) aa.out ap.out hHeld ?_;refine px 15 27 (rs true [16,17]) aa.out ?_;refine px 16 28 (rs true [17,16]) aa.out ?_;refine px 17 29 (rs true [18,15]) aa.out ?_;refine px 18 30 (rs true [19,14]) aa.out ?_;refine px 19 31 (rs true [20,13]) aa.out ?_;refine px 20 32 (rs true [21,12]) aa.out ?_;refine pu 21 33 (rs true [22,11]) aa.out ?_;refine pu 22 34 (rs true [23,10]) aa.out ?_;refine pu 23 35 (rs true [24,9]) aa.out ?_;refine pu 24 36 (rs true [25,8]) aa.out ?_;refine pu 25 37 (rs true [26,7]) aa.out ?_;refine pu 26 38 (rs true [27,6]) aa.out ?_;refine pu 27 39 (rs true [28,5]) aa.out ?_;refine pu 28 40 (rs true [29,4]) aa.out ?_;refine pu 29 41 (rs true [30,3]) aa.out ?_;refine pu 30 42 (rs true [31,2]) aa.out ?_;refine px 31 43 (rs true [32,1]) aa.out ?_;refine px 32 44 (rs true [33]) aa.out ?_;refine mU (kI aa.out (by kernel_rfl)) ?_;try go_wp2
        go_roundg k1
        case measure=>have:=aI.out;omega
        case rel=>exact ⟨(wrap64 (ab+1)),sm,H',⟨by have:=aI.out;omega⟩,⟨bl1 HB.out ao.out⟩⟩
     ·replace c8:=Bool.eq_false_iff.mpr c8
      subst c8;have H1:(some false)=some r:=by rw [if_neg (show ¬ (false=true) by decide)] at H;exact H
      clear H;have H:=H1;clear H1;obtain rfl:=Option.some.inj H;have aj:0≤(ab:Int):=of_decide_eq_true asm;have ak:ab<(l0.length:Int):=of_decide_eq_true asm;obtain ⟨aw,aA,af,ag⟩:=j5 aE.out ab aj ak;cases aA;replace af:=xc HB af;replace ag:=xc HB ag;replace aj:=eq_true aj;replace ak:=eq_true ak;try go_wp2_with (first | ((with_reducible refine iC (N:=4) rfl ?_);refine bx 4 38 #[.int .i64 0,.int .i64 0] ?_;intro ae hg aN aq hb;have ac:=am (aq);have az:=am ((bz hg HB.out:w.heap.size≤ae));have ao:=az;replace HB:=xb HB hb;clear hb aq hg;obtain ⟨bb,bd,be,bf⟩:=b2 ac.out))
      have au:gL (((aN.setCell ⟨ae,0,none⟩ (.int .i64 ((gN l0 ab).f0))).setCell ⟨ae,1,none⟩ (.int .i64 ((gN l0 ab).f1))).heap[ae]? = some (.cells #[.int .i64 ((gN l0 ab).f0),.int .i64 ((gN l0 ab).f1)] 38 (0,0))):=⟨by (with_reducible repeat (first | refine gV ?_ _ | refine gQ ?_ | refine gM ?_ _));refine iT (cs:=#[.int .i64 ((gN l0 ab).f0),.int .i64 0]) ?_ 1 _ rfl;(with_reducible repeat (first | refine gV ?_ _ | refine gQ ?_ | refine gM ?_ _));refine iT (cs:=#[.int .i64 0,.int .i64 0]) ?_ 0 _ rfl;(with_reducible repeat (first | refine gV ?_ _ | refine gQ ?_ | refine gM ?_ _));exact ac.out⟩;have av:gL (Below w.heap.size w ((aN.setCell ⟨ae,0,none⟩ (.int .i64 ((gN l0 ab).f0))).setCell ⟨ae,1,none⟩ (.int .i64 ((gN l0 ab).f1)))):=⟨bl1 HB.out ao.out⟩;(try clear ac);(try clear HB);generalize ((aN.setCell ⟨ae,0,none⟩ (.int .i64 ((gN l0 ab).f0))).setCell ⟨ae,1,none⟩ (.int .i64 ((gN l0 ab).f1)))=bq at au av ⊢;have ac:=au;have HB:=av;clear au av;replace ac:=am (gQ ac.out);replace HB:=am (iQ HB.out);refine lu (n:=33) (S:=fun w'=>w'.cell? ⟨ae,0,none⟩=some (.int .i64 ((gN l0 ab).f0))∧w'.cell? ⟨ae,1,none⟩=some (.int .i64 ((gN l0 ab).f1))) (ds:=[]) (rs false [33]) (by kernel_rfl) rfl rfl ⟨bc ac.out 0,bc ac.out 1⟩ (fun hHeld => ?_);refine jK iO.adU iO.aae (fun aa ap => ?_);generalize bq.drew=bG at ac HB hHeld ⊢;refine px 0 12 (rs true [1,32]) aa.out ?_;refine tx 1 13 (rs true [2,31]) aa.out ap.out hHeld ?_
      refine ny (i:=2) (N:=some 14) (rs true [3,30]) rfl rfl (jM aa.out (by kernel_rfl)) (by decide) (fun K hK => ?_);refine lC Tryz.func32 (by kernel_rfl) rfl #[.int .i64 ((gN l0 ab).f0)] (by rfl) rfl rfl ar ?_;with_reducible refine (jQ.calls ((gN l0 ab).f0) true _ A5.out).mono ?_
      rintro e w' ⟨rfl,⟨nd,rfl⟩⟩;refine ⟨_,rfl,?_⟩;refine hK.out _ _ ⟨bc ac.out 0,bc ac.out 1⟩ (fun hHeld => ?_);clear hK K;refine nx 14 ?_;refine px 3 15 (rs true [4,29]) aa.out ?_;refine px 4 16 (rs true [5,28]) aa.out ?_;refine px 5 17 (rs true [6,27]) aa.out ?_;refine tx 6 18 (rs true [7,26]) aa.out ap.out hHeld ?_;refine ny (i:=7) (N:=some 19) (rs true [8,25]) rfl rfl (jM aa.out (by kernel_rfl)) (by decide) (fun K hK => ?_);refine lC Tryz.func32 (by kernel_rfl) rfl #[.int .i64 ((gN l0 ab).f1)] (by rfl) rfl rfl ar ?_;with_reducible refine (jQ.calls ((gN l0 ab).f1) false _ A7.out).mono ?_
      rintro e w' ⟨rfl,⟨nd,rfl⟩⟩;refine ⟨_,rfl,?_⟩;refine hK.out _ _ ⟨bc ac.out 0,bc ac.out 1⟩ (fun hHeld => ?_);clear hK K;refine nx 19 ?_;refine px 8 20 (rs true [9,24]) aa.out ?_;refine px 9 21 (rs true [10,23]) aa.out ?_;refine px 10 22 (rs true [11,22]) aa.out ?_;refine pu 11 23 (rs true [12,21]) aa.out ?_;refine pu 12 24 (rs true [13,20]) aa.out ?_;refine pu 13 25 (rs true [14,19]) aa.out ?_;refine pu 14 26 (rs true [15,18]) aa.out ?_;refine pu 15 27 (rs true [16,17]) aa.out ?_;refine px 16 28 (rs true [17,16]) aa.out ?_;refine px 17 29 (rs true [18,15]) aa.out ?_;refine pu 18 30 (rs true [19,14]) aa.out ?_;refine pu 19 31 (rs true [20,13]) aa.out ?_;refine pu 20 32 (rs true [21,12]) aa.out ?_;refine pu 21 33 (rs true [22,11]) aa.out ?_;refine pu 22 34 (rs true [23,10]) aa.out ?_;refine pu 23 35 (rs true [24,9]) aa.out ?_;refine pu 24 36 (rs true [25,8]) aa.out ?_;refine pu 25 37 (rs true [26,7]) aa.out ?_;refine pu 26 38 (rs true [27,6]) aa.out ?_;refine pu 27 39 (rs true [28,5]) aa.out ?_;refine pu 28 40 (rs true [29,4]) aa.out ?_;refine pu 29 41 (rs true [30,3]) aa.out ?_;refine pu 30 42 (rs true [31,2]) aa.out ?_;refine pu 31 43 (rs true [32,1]) aa.out ?_;refine px 32 44 (rs true [33]) aa.out ?_;refine mU (kI aa.out (by kernel_rfl)) ?_;try go_wp2
      go_ret
      exact ⟨rt,bl1 HB.out ao.out⟩
    ·replace c6:=Bool.eq_false_iff.mpr c6
     subst c6;have H1:(some false)=some r:=by rw [if_neg (show ¬ (false=true) by decide)] at H;exact H
     clear H;have H:=H1;clear H1;obtain rfl:=Option.some.inj H;have aj:0≤(ab:Int):=of_decide_eq_true asm;have ak:ab<(l0.length:Int):=of_decide_eq_true asm;obtain ⟨aw,aA,af,ag⟩:=j5 aE.out ab aj ak;cases aA;replace af:=xc HB af;replace ag:=xc HB ag;replace aj:=eq_true aj;replace ak:=eq_true ak;try go_wp2_with (first | ((with_reducible refine iC (N:=4) rfl ?_);refine bx 4 38 #[.int .i64 0,.int .i64 0] ?_;intro ae hg aO aq hb;have ac:=am (aq);have az:=am ((bz hg HB.out:w.heap.size≤ae));have ao:=az;replace HB:=xb HB hb;clear hb aq hg;obtain ⟨bg,bh,bi,bj⟩:=b2 ac.out))
     have au:gL (((aO.setCell ⟨ae,0,none⟩ (.int .i64 ((gN l0 ab).f0))).setCell ⟨ae,1,none⟩ (.int .i64 ((gN l0 ab).f1))).heap[ae]? = some (.cells #[.int .i64 ((gN l0 ab).f0),.int .i64 ((gN l0 ab).f1)] 38 (0,0))):=⟨by (with_reducible repeat (first | refine gV ?_ _ | refine gQ ?_ | refine gM ?_ _));refine iT (cs:=#[.int .i64 ((gN l0 ab).f0),.int .i64 0]) ?_ 1 _ rfl;(with_reducible repeat (first | refine gV ?_ _ | refine gQ ?_ | refine gM ?_ _));refine iT (cs:=#[.int .i64 0,.int .i64 0]) ?_ 0 _ rfl;(with_reducible repeat (first | refine gV ?_ _ | refine gQ ?_ | refine gM ?_ _));exact ac.out⟩;have av:gL (Below w.heap.size w ((aO.setCell ⟨ae,0,none⟩ (.int .i64 ((gN l0 ab).f0))).setCell ⟨ae,1,none⟩ (.int .i64 ((gN l0 ab).f1)))):=⟨bl1 HB.out ao.out⟩;(try clear ac);(try clear HB);generalize ((aO.setCell ⟨ae,0,none⟩ (.int .i64 ((gN l0 ab).f0))).setCell ⟨ae,1,none⟩ (.int .i64 ((gN l0 ab).f1)))=br at au av ⊢;have ac:=au;have HB:=av;clear au av;replace ac:=am (gQ ac.out);replace HB:=am (iQ HB.out);refine lu (n:=33) (S:=fun w'=>w'.cell? ⟨ae,0,none⟩=some (.int .i64 ((gN l0 ab).f0))∧w'.cell? ⟨ae,1,none⟩=some (.int .i64 ((gN l0 ab).f1))) (ds:=[]) (rs false [33]) (by kernel_rfl) rfl rfl ⟨bc ac.out 0,bc ac.out 1⟩ (fun hHeld => ?_);refine jK iO.adU iO.aae (fun aa ap => ?_);generalize br.drew=bH at ac HB hHeld ⊢;refine px 0 12 (rs true [1,32]) aa.out ?_;refine tx 1 13 (rs true [2,31]) aa.out ap.out hHeld ?_
     refine ny (i:=2) (N:=some 14) (rs true [3,30]) rfl rfl (jM aa.out (by kernel_rfl)) (by decide) (fun K hK => ?_);refine lC Tryz.func32 (by kernel_rfl) rfl #[.int .i64 ((gN l0 ab).f0)] (by rfl) rfl rfl ar ?_;with_reducible refine (jQ.calls ((gN l0 ab).f0) false _ A5.out).mono ?_
     rintro e w' ⟨rfl,⟨nd,rfl⟩⟩;refine ⟨_,rfl,?_⟩;refine hK.out _ _ ⟨bc ac.out 0,bc ac.out 1⟩ (fun hHeld => ?_);clear hK K;refine nx 14 ?_;refine px 3 15 (rs true [4,29]) aa.out ?_;refine px 4 16 (rs true [5,28]) aa.out ?_;refine pu 5 17 (rs true [6,27]) aa.out ?_;refine pu 6 18 (rs true [7,26]) aa.out ?_;refine pu 7 19 (rs true [8,25]) aa.out ?_;refine pu 8 20 (rs true [9,24]) aa.out ?_;refine px 9 21 (rs true [10,23]) aa.out ?_;refine px 10 22 (rs true [11,22]) aa.out ?_;refine pu 11 23 (rs true [12,21]) aa.out ?_;refine pu 12 24 (rs true [13,20]) aa.out ?_;refine pu 13 25 (rs true [14,19]) aa.out ?_;refine pu 14 26 (rs true [15,18]) aa.out ?_;refine pu 15 27 (rs true [16,17]) aa.out ?_;refine px 16 28 (rs true [17,16]) aa.out ?_;refine px 17 29 (rs true [18,15]) aa.out ?_;refine pu 18 30 (rs true [19,14]) aa.out ?_;refine pu 19 31 (rs true [20,13]) aa.out ?_;refine pu 20 32 (rs true [21,12]) aa.out ?_;refine pu 21 33 (rs true [22,11]) aa.out ?_;refine pu 22 34 (rs true [23,10]) aa.out ?_;refine pu 23 35 (rs true [24,9]) aa.out ?_;refine pu 24 36 (rs true [25,8]) aa.out ?_;refine pu 25 37 (rs true [26,7]) aa.out ?_;refine pu 26 38 (rs true [27,6]) aa.out ?_;refine pu 27 39 (rs true [28,5]) aa.out ?_;refine pu 28 40 (rs true [29,4]) aa.out ?_;refine pu 29 41 (rs true [30,3]) aa.out ?_;refine pu 30 42 (rs true [31,2]) aa.out ?_;refine pu 31 43 (rs true [32,1]) aa.out ?_;refine px 32 44 (rs true [33]) aa.out ?_;refine mU (kI aa.out (by kernel_rfl)) ?_;try go_wp2
     go_ret
     exact ⟨rt,bl1 HB.out ao.out⟩
   ·rw [if_neg c2] at H
    have aT:=decide_eq_false c2;clear c2;obtain rfl:=Option.some.inj H;go_wp2;go_ret;exact ⟨rt,bl HB.out⟩
def oG.f (l0:List (S38)) (l1:List (S38)):Option (Bool):=(nC.f l0 l1).bind fun aa=>(some (decide ((aa.length:Int)>0)))
set_option maxHeartbeats 8000000 in
set_option maxRecDepth 100000 in
theorem oG.calls (A0:Option Addr) (c0:Nat) (l0:List (S38)) (A1:Option Addr) (c1:Nat) (l1:List (S38)) (r:Bool) (w:World) (hr0:Kd.C k38 w A0 l0.length l0) (hc0:l0.length≤c0) (hr1:Kd.C k38 w A1 l1.length l1) (hc1:l1.length≤c1) (h:oG.f l0 l1=some r) :
 Calls Tryz.prog 39 #[.slice A0 l0.length c0,.slice A1 l1.length c1] w fun e w'=>e=.returned (.bool r)∧Below w.heap.size w w':=by
 have ai:=am hr0;have aj:=am hc0;clear hr0 hc0;have HR1:=am hr1;have ak:=am hc1;clear hr1 hc1;have HB:=am (Below.refl w.heap.size w);have H:((nC.f l0 l1).bind fun aa=>(some (decide ((aa.length:Int)>0))))=some r:=h;clear h;replace H:=Option.bind_eq_some_iff.mp H;obtain ⟨aa,ah,H⟩:=H;try dsimp only at H
 have A3:=am ah;clear ah;obtain rfl:=Option.some.inj H;go_enter Tryz.func39,Tryz.ntmps39;go_wp2_with (first | ((with_reducible refine gP (f:=67) rfl ?_);refine gl 7 Tryz.func67 #[.slice A0 l0.length c0,.slice A1 l1.length c1] ?_;(with_reducible refine (nC.calls _ _ l0 _ _ l1 aa _ ?ab ?ac ?ae ?af A3.out).mono ?_);(case ab=>exact kc ai.out);(case ac=>exact aj.out);(case ae=>exact kc HR1.out);(case af=>exact ak.out);rintro e w4 ⟨ao,rfl,ho0,hb⟩;refine ⟨_,rfl,?_⟩;have ag:=am (Kd.kE ho0 (iL (bl HB.out)));replace HB:=xb HB hb;(try clear hb);(try clear ho0);obtain ⟨ap,aq,al⟩:=Kd.jT ag.out;subst al));go_ret;exact ⟨rt,bl HB.out⟩
end Go.Proofs.YtmbmalkpmanaaaaGreat.P

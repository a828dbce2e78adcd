/- The law SetsLaws: it holds at every input that its row reads. No condition of its own. -/
import Derived.Test.YtcomnjodjijcmaaGreatYA17
import Derived.Test.YtcomnjodjijcmaaGreatRows
import Derived.Test.YtcomnjodjijcmaaGreatYA14
import Derived.Test.YtcomnjodjijcmaaGreatYA15
import Derived.WalkKit
import Derived.ProofKit
import Derived.OpenShut
import Derived.ShutString
import Derived.ChangeOld
import Derived.Below
import Derived.SizedLaws
namespace Go.Proofs.YtcomnjodjijcmaaGreat.Q
set_option linter.unusedVariables false
set_option linter.unusedSimpArgs false
open Go.RowKit Go.Proofs.YtcomnjodjijcmaaGreatW.dz Go.Proofs.YtcomnjodjijcmaaGreatW.eD M R P
section
def fM (D:List Sp→List Sp→List Sp) (A B:Fm):Fm:=⟨tF A B,(nF A B:Int),(List.range (nF A B)).map (fun (i:Nat)=>D (bF A (i:Int)) (bF B (i:Int))),(iK A B).map fun i=>⟨i,D (vF A i).1 (vF B i).1⟩⟩
def kF (A B:Fm):Prop:=mG A B∧(∀ i:Nat,i<nF A B→al (bF A (i:Int)) (bF B (i:Int)))∧∀ i∈iK A B,al (vF A i).1 (vF B i).1
def grF (A:Fm):Prop:=GR A.f0 A.f1 A.f2 A.f3
def abI (A h:Fm):Prop:=vM A.f0 A.f2 A.f3 h
def noF:Fm:=⟨0,0,[],[]⟩
def OfS (D:List Sp→List Sp→List Sp) (A B:Fm) (r:Fm × Int):Prop :=
  (¬ kF A B→r=(noF,51))∧(kF A B→(¬ grF (fM D A B)→r=(noF,51))∧(grF (fM D A B)→∃ h,abI (fM D A B) h∧r=(h,0)))
def oneOf (D:List Sp→List Sp→List Sp):Prop:=∀ x y,D x y=x∨D x y=y∨D x y=[]
theorem ag8:oneOf DU:=fun x y=>by unfold DU;split;exact .inr (.inl rfl);exact .inl rfl
theorem ag9:oneOf DC:=fun x y=>by unfold DC;split;exact .inr (.inr rfl);exact .inl rfl
theorem aha:oneOf DL:=fun x y=>by unfold DL;split;exact .inl rfl;exact .inr (.inr rfl)
end
variable [Inhabited WT]
theorem pE {p c p' c':Int} {core fu:List (List Sp)} {odd kr:List Gn} {A B:Fm} (ca:Ev (fun k=>dK.f k p c core odd) A) (cb:Ev (fun k=>dK.f k p' c' fu kr) B) (H:OfH A B) (hs:kS (fM DU A B).f2 (fM DU A B).f3≤60000) :
    ∃ r,Ev (fun k=>dA.f k p c core odd p' c' fu kr) r∧OfS DU A B r:=by
  obtain ⟨r1,c1,c2,c3⟩:=tV H;have hn:=H.n;have ho:=H.o;have hil:=mX A B;unfold dA.f;by_cases hf:mG A B
  case neg =>
    have:=c3 hf;subst this;exact ⟨_,Ev.bind ca (Ev.bind cb (Ev.bind c1 (Ev.yes (by simp) (Ev.now _)))),fun _=>rfl,fun h=>absurd h.1 hf⟩
  have:=c2 hf;subst this;obtain ⟨b1,d1,d2⟩:=l8 ((List.range (nF A B)).map (fun (i:Nat)=>(⟨bF A (i:Int),bF B (i:Int)⟩:P2))) (by simp;omega) (fun q hq=>by
    obtain ⟨i,_,rfl⟩:=List.mem_map.1 hq;exact nP H.sa _)
  obtain ⟨b2,e1,e2⟩:=l8 ((iK A B).map fun i=>(⟨(vF A i).1,(vF B i).1⟩:P2)) (by simp;omega) (fun q hq=>by
    obtain ⟨i,_,rfl⟩:=List.mem_map.1 hq;exact jL H.sa _)
  have od:=wS H;cases b1 with
  | false =>
    refine ⟨_,Ev.bind ca (Ev.bind cb (Ev.bind c1 (Ev.no (by simp) (Ev.bind od (Ev.bind d1 (Ev.yes rfl (Ev.now _))))))),fun _=>rfl,fun h => ?_⟩;exact absurd (d2.2 fun q hq=>by
      obtain ⟨i,hi,rfl⟩:=List.mem_map.1 hq;exact h.2.1 i (List.mem_range.1 hi)) (by simp)
  | true =>
  cases b2 with
  | false =>
    refine ⟨_,Ev.bind ca (Ev.bind cb (Ev.bind c1 (Ev.no (by simp) (Ev.bind od (Ev.bind d1 (Ev.no (by simp) (Ev.bind e1 (Ev.yes rfl (Ev.now _))))))))),fun _=>rfl,fun h => ?_⟩;exact absurd (e2.2 fun q hq=>by
      obtain ⟨i,hi,rfl⟩:=List.mem_map.1 hq;exact h.2.2 i hi) (by simp)
  | true =>
  have hal:kF A B:=⟨hf,fun i hi=>d2.1 rfl _ (List.mem_map.2 ⟨i,List.mem_range.2 hi,rfl⟩),fun i hi=>e2.1 rfl _ (List.mem_map.2 ⟨i,hi,rfl⟩)⟩;have m:MF (fM DU A B).f2 (fM DU A B).f3:=by
    refine ⟨fun l hl => ?_,fun g hg => ?_⟩
    · obtain ⟨i,_,rfl⟩:=List.mem_map.1 hl
      have q1:=nP H.sa (i:Int);have q2:=nP H.sb (i:Int);rcases ag8 (bF A (i:Int)) (bF B (i:Int)) with e | e | e
      · rw [e];omega
      · rw [e];omega
      · rw [e];simp
    · obtain ⟨i,_,rfl⟩:=List.mem_map.1 hg
      have q1:(vF A i).1.length≤4611686018427387904:=jL H.sa i;have q2:(vF B i).1.length≤4611686018427387904:=jL H.sb i;show (DU (vF A i).1 (vF B i).1).length≤_;rcases ag8 (vF A i).1 (vF B i).1 with e | e | e
      · rw [e];omega
      · rw [e];omega
      · rw [e];simp
  obtain ⟨n,⟨_,g2⟩,e,f1,f2,f3,f4⟩:=nM (p:=(fM DU A B).f0) (c:=(fM DU A B).f1) m (by simp [fM];omega) (by simp [fM];omega);have hne:=g2 (by omega);have l1:∀ (L:List P2),L.length≤6000→∀ (d j:Nat),L.length - j=d→j≤L.length→∀ (X:Nat→List (List Sp)→Option (Fm × Int)) (v:Fm × Int),Ev (fun k=>X k (L.map fun q=>DU q.f0 q.f1)) v→Ev (fun k=>dA.l1 (X k) L (L.length:Int) k (j:Int) ((L.take j).map fun q=>DU q.f0 q.f1)) v:=by
    intro L hL d;induction d with
    | zero =>
      intro j hd hj X v hX;obtain rfl:j=L.length:=by omega
      refine Ev.step (f:=fun k=>X (k+1) (L.map fun q=>DU q.f0 q.f1)) (fun k => ?_) (Ev.shift hX);have c1:¬ (L.length:Int)<(L.length:Int):=by omega
      simp only [dA.l1,dA.l1T,decide_eq_true_eq,c1,if_false,List.take_length]
    | succ d ih =>
      intro j hd hj X v hX;have hj':j<L.length:=by omega
      have c1:(j:Int)<(L.length:Int):=by omega
      have c2:(0:Int)≤(j:Int):=by omega
      have hw:=nx c1 c2 (by omega);refine Ev.step (fun k=>rfl) ?_;simp only [dA.l1,dA.l1T,decide_eq_true_eq,c1,c2,if_true,hw,rdP _ j hj',afP,Option.bind_some];have hlen:((L.take j).map fun q=>DU q.f0 q.f1).length+1≤5864062014805:=by simp;omega
      refine Ev.yes hlen ?_;have:=ih (j+1) (by omega) (by omega) (fun k=>X (k+1)) v (Ev.shift hX);rw [List.take_succ_eq_append_getElem hj',List.map_append] at this;exact this
  have l2:∀ (d j:Nat),(iK A B).length - j=d→j≤(iK A B).length→∀ (X:Nat→List Gn→Option (Fm × Int)) (v:Fm × Int),Ev (fun k=>X k (fM DU A B).f3) v→Ev (fun k=>dA.l2 (X k) (iK A B) ((iK A B).map fun i=>(⟨(vF A i).1,(vF B i).1⟩:P2)) (((iK A B).map fun i=>(⟨(vF A i).1,(vF B i).1⟩:P2)).length:Int) k (j:Int) (((iK A B).take j).map fun i=>⟨i,DU (vF A i).1 (vF B i).1⟩)) v:=by
    intro d;have hml:((iK A B).map fun i=>(⟨(vF A i).1,(vF B i).1⟩:P2)).length=(iK A B).length:=by simp
    induction d with
    | zero =>
      intro j hd hj X v hX;obtain rfl:j=(iK A B).length:=by omega
      refine Ev.step (f:=fun k=>X (k+1) (fM DU A B).f3) (fun k => ?_) (Ev.shift hX);have c1:¬ ((iK A B).length:Int)<((iK A B).length:Int):=by omega
      simp only [dA.l2,dA.l2T,decide_eq_true_eq,hml,c1,if_false,List.take_length];rfl
    | succ d ih =>
      intro j hd hj X v hX;have hj':j<(iK A B).length:=by omega
      have c1:(j:Int)<((iK A B).length:Int):=by omega
      have c2:(0:Int)≤(j:Int):=by omega
      have hw:=nx c1 c2 (by omega);refine Ev.step (fun k=>rfl) ?_;simp only [dA.l2,dA.l2T,decide_eq_true_eq,hml,c1,c2,if_true,hw,rdP _ j (show j<((iK A B).map fun i=>(⟨(vF A i).1,(vF B i).1⟩:P2)).length by rw [hml];exact hj'),rdI _ j hj',afP,Option.bind_some,List.getElem_map];have hlen:(((iK A B).take j).map fun i=>(⟨i,DU (vF A i).1 (vF B i).1⟩:Gn)).length+1≤4398046511104:=by simp;omega
      refine Ev.yes hlen ?_;have:=ih (j+1) (by omega) (by omega) (fun k=>X (k+1)) v (Ev.shift hX);rw [List.take_succ_eq_append_getElem hj',List.map_append,hml] at this;exact this
  have hml:(((List.range (nF A B)).map (fun (i:Nat)=>(⟨bF A (i:Int),bF B (i:Int)⟩:P2))).map fun q=>DU q.f0 q.f1)=(fM DU A B).f2:=by
    simp [fM,List.map_map,Function.comp_def]
  have hll:((((List.range (nF A B)).map (fun (i:Nat)=>(⟨bF A (i:Int),bF B (i:Int)⟩:P2)))).length:Int)=(fM DU A B).f1:=by simp [fM]
  have fin:∀ v,Ev (fun k=>(dH.f k (fM DU A B).f0 (fM DU A B).f1 (fM DU A B).f2 (fM DU A B).f3).bind fun aa=>(if (decide (aa=0))=true then ((dK.f k (fM DU A B).f0 (fM DU A B).f1 (fM DU A B).f2 (fM DU A B).f3).bind fun t16=>(some ((⟨t16.f0,t16.f1,t16.f2,t16.f3⟩:Fm),(0:Int)))) else (if (decide (aa=3))=true then some (noF,3) else some (noF,51)))) v →
      Ev (fun k=>dA.f k p c core odd p' c' fu kr) v:=fun v hv=>by
    unfold dA.f;refine Ev.bind ca (Ev.bind cb (Ev.bind c1 (Ev.no (by simp) (Ev.bind od (Ev.bind d1 (Ev.no (by simp) (Ev.bind e1 (Ev.no (by simp) ?_))))))));unfold dA.l0;have k2:=l2 (iK A B).length 0 (by omega) (by omega) (fun k ab=>(dH.f k (fM DU A B).f0 (fM DU A B).f1 (fM DU A B).f2 ab).bind fun aa=>(if (decide (aa=0))=true then ((dK.f k (fM DU A B).f0 (fM DU A B).f1 (fM DU A B).f2 ab).bind fun t16=>(some ((⟨t16.f0,t16.f1,t16.f2,t16.f3⟩:Fm),(0:Int)))) else (if (decide (aa=3))=true then some (noF,3) else some (noF,51)))) v hv;have k1:=l1 ((List.range (nF A B)).map (fun (i:Nat)=>(⟨bF A (i:Int),bF B (i:Int)⟩:P2))) (by simp;omega) _ 0 rfl (by omega) (fun k ac=>dA.l2 (fun ab=>(dH.f k (fM DU A B).f0 (fM DU A B).f1 ac ab).bind fun aa=>(if (decide (aa=0))=true then ((dK.f k (fM DU A B).f0 (fM DU A B).f1 ac ab).bind fun t16=>(some ((⟨t16.f0,t16.f1,t16.f2,t16.f3⟩:Fm),(0:Int)))) else (if (decide (aa=3))=true then some (noF,3) else some (noF,51)))) (iK A B) ((iK A B).map fun i=>(⟨(vF A i).1,(vF B i).1⟩:P2)) (((iK A B).map fun i=>(⟨(vF A i).1,(vF B i).1⟩:P2)).length:Int) k 0 []) v (by rw [hml];exact k2);simp only [hll] at k1 ⊢;exact k1
  by_cases hg:grF (fM DU A B)
  · have he:e=0:=f4.2 ⟨by omega,hg⟩
    subst he;obtain ⟨h,h1,h2⟩:=j5 (p:=(fM DU A B).f0) (c:=(fM DU A B).f1) (core:=(fM DU A B).f2) (odd:=(fM DU A B).f3) hg.s;have r1:=fin (h,0) (Ev.bind f1 (Ev.yes rfl (Ev.bind h1 (Ev.now _))));exact ⟨_,r1,fun hh=>absurd hal hh,fun _=>⟨fun hh=>absurd hg hh,fun _=>⟨h,h2,rfl⟩⟩⟩
  · have he:e=50:=by
      rcases f2 with e' | e' | e'
      · exact absurd (f4.1 e').2 hg
      · exact absurd (f3.1 e') (by omega)
      · exact e'
    subst he;have r1:=fin (noF,51) (Ev.bind f1 (Ev.no (by simp) (Ev.no (by simp) (Ev.now _))));exact ⟨_,r1,fun hh=>absurd hal hh,fun _=>⟨fun _=>rfl,fun hh=>absurd hh hg⟩⟩
theorem yI {p c p' c':Int} {core fu:List (List Sp)} {odd kr:List Gn} {A B:Fm} (ca:Ev (fun k=>dK.f k p c core odd) A) (cb:Ev (fun k=>dK.f k p' c' fu kr) B) (H:OfH A B) (hs:kS (fM DC A B).f2 (fM DC A B).f3≤60000) :
    ∃ r,Ev (fun k=>dJ.f k p c core odd p' c' fu kr) r∧OfS DC A B r:=by
  obtain ⟨r1,c1,c2,c3⟩:=tV H;have hn:=H.n;have ho:=H.o;have hil:=mX A B;unfold dJ.f;by_cases hf:mG A B
  case neg =>
    have:=c3 hf;subst this;exact ⟨_,Ev.bind ca (Ev.bind cb (Ev.bind c1 (Ev.yes (by simp) (Ev.now _)))),fun _=>rfl,fun h=>absurd h.1 hf⟩
  have:=c2 hf;subst this;obtain ⟨b1,d1,d2⟩:=l8 ((List.range (nF A B)).map (fun (i:Nat)=>(⟨bF A (i:Int),bF B (i:Int)⟩:P2))) (by simp;omega) (fun q hq=>by
    obtain ⟨i,_,rfl⟩:=List.mem_map.1 hq;exact nP H.sa _)
  obtain ⟨b2,e1,e2⟩:=l8 ((iK A B).map fun i=>(⟨(vF A i).1,(vF B i).1⟩:P2)) (by simp;omega) (fun q hq=>by
    obtain ⟨i,_,rfl⟩:=List.mem_map.1 hq;exact jL H.sa _)
  have od:=wS H;cases b1 with
  | false =>
    refine ⟨_,Ev.bind ca (Ev.bind cb (Ev.bind c1 (Ev.no (by simp) (Ev.bind od (Ev.bind d1 (Ev.yes rfl (Ev.now _))))))),fun _=>rfl,fun h => ?_⟩;exact absurd (d2.2 fun q hq=>by
      obtain ⟨i,hi,rfl⟩:=List.mem_map.1 hq;exact h.2.1 i (List.mem_range.1 hi)) (by simp)
  | true =>
  cases b2 with
  | false =>
    refine ⟨_,Ev.bind ca (Ev.bind cb (Ev.bind c1 (Ev.no (by simp) (Ev.bind od (Ev.bind d1 (Ev.no (by simp) (Ev.bind e1 (Ev.yes rfl (Ev.now _))))))))),fun _=>rfl,fun h => ?_⟩;exact absurd (e2.2 fun q hq=>by
      obtain ⟨i,hi,rfl⟩:=List.mem_map.1 hq;exact h.2.2 i hi) (by simp)
  | true =>
  have hal:kF A B:=⟨hf,fun i hi=>d2.1 rfl _ (List.mem_map.2 ⟨i,List.mem_range.2 hi,rfl⟩),fun i hi=>e2.1 rfl _ (List.mem_map.2 ⟨i,hi,rfl⟩)⟩;have m:MF (fM DC A B).f2 (fM DC A B).f3:=by
    refine ⟨fun l hl => ?_,fun g hg => ?_⟩
    · obtain ⟨i,_,rfl⟩:=List.mem_map.1 hl
      have q1:=nP H.sa (i:Int);have q2:=nP H.sb (i:Int);rcases ag9 (bF A (i:Int)) (bF B (i:Int)) with e | e | e
      · rw [e];omega
      · rw [e];omega
      · rw [e];simp
    · obtain ⟨i,_,rfl⟩:=List.mem_map.1 hg
      have q1:(vF A i).1.length≤4611686018427387904:=jL H.sa i;have q2:(vF B i).1.length≤4611686018427387904:=jL H.sb i;show (DC (vF A i).1 (vF B i).1).length≤_;rcases ag9 (vF A i).1 (vF B i).1 with e | e | e
      · rw [e];omega
      · rw [e];omega
      · rw [e];simp
  obtain ⟨n,⟨_,g2⟩,e,f1,f2,f3,f4⟩:=nM (p:=(fM DC A B).f0) (c:=(fM DC A B).f1) m (by simp [fM];omega) (by simp [fM];omega);have hne:=g2 (by omega);have l1:∀ (L:List P2),L.length≤6000→∀ (d j:Nat),L.length - j=d→j≤L.length→∀ (X:Nat→List (List Sp)→Option (Fm × Int)) (v:Fm × Int),Ev (fun k=>X k (L.map fun q=>DC q.f0 q.f1)) v→Ev (fun k=>dJ.l1 (X k) L (L.length:Int) k (j:Int) ((L.take j).map fun q=>DC q.f0 q.f1)) v:=by
    intro L hL d;induction d with
    | zero =>
      intro j hd hj X v hX;obtain rfl:j=L.length:=by omega
      refine Ev.step (f:=fun k=>X (k+1) (L.map fun q=>DC q.f0 q.f1)) (fun k => ?_) (Ev.shift hX);have c1:¬ (L.length:Int)<(L.length:Int):=by omega
      simp only [dJ.l1,dJ.l1T,decide_eq_true_eq,c1,if_false,List.take_length]
    | succ d ih =>
      intro j hd hj X v hX;have hj':j<L.length:=by omega
      have c1:(j:Int)<(L.length:Int):=by omega
      have c2:(0:Int)≤(j:Int):=by omega
      have hw:=nx c1 c2 (by omega);refine Ev.step (fun k=>rfl) ?_;simp only [dJ.l1,dJ.l1T,decide_eq_true_eq,c1,c2,if_true,hw,rdP _ j hj',afQ,Option.bind_some];have hlen:((L.take j).map fun q=>DC q.f0 q.f1).length+1≤5864062014805:=by simp;omega
      refine Ev.yes hlen ?_;have:=ih (j+1) (by omega) (by omega) (fun k=>X (k+1)) v (Ev.shift hX);rw [List.take_succ_eq_append_getElem hj',List.map_append] at this;exact this
  have l2:∀ (d j:Nat),(iK A B).length - j=d→j≤(iK A B).length→∀ (X:Nat→List Gn→Option (Fm × Int)) (v:Fm × Int),Ev (fun k=>X k (fM DC A B).f3) v→Ev (fun k=>dJ.l2 (X k) (iK A B) ((iK A B).map fun i=>(⟨(vF A i).1,(vF B i).1⟩:P2)) (((iK A B).map fun i=>(⟨(vF A i).1,(vF B i).1⟩:P2)).length:Int) k (j:Int) (((iK A B).take j).map fun i=>⟨i,DC (vF A i).1 (vF B i).1⟩)) v:=by
    intro d;have hml:((iK A B).map fun i=>(⟨(vF A i).1,(vF B i).1⟩:P2)).length=(iK A B).length:=by simp
    induction d with
    | zero =>
      intro j hd hj X v hX;obtain rfl:j=(iK A B).length:=by omega
      refine Ev.step (f:=fun k=>X (k+1) (fM DC A B).f3) (fun k => ?_) (Ev.shift hX);have c1:¬ ((iK A B).length:Int)<((iK A B).length:Int):=by omega
      simp only [dJ.l2,dJ.l2T,decide_eq_true_eq,hml,c1,if_false,List.take_length];rfl
    | succ d ih =>
      intro j hd hj X v hX;have hj':j<(iK A B).length:=by omega
      have c1:(j:Int)<((iK A B).length:Int):=by omega
      have c2:(0:Int)≤(j:Int):=by omega
      have hw:=nx c1 c2 (by omega);refine Ev.step (fun k=>rfl) ?_;simp only [dJ.l2,dJ.l2T,decide_eq_true_eq,hml,c1,c2,if_true,hw,rdP _ j (show j<((iK A B).map fun i=>(⟨(vF A i).1,(vF B i).1⟩:P2)).length by rw [hml];exact hj'),rdI _ j hj',afQ,Option.bind_some,List.getElem_map];have hlen:(((iK A B).take j).map fun i=>(⟨i,DC (vF A i).1 (vF B i).1⟩:Gn)).length+1≤4398046511104:=by simp;omega
      refine Ev.yes hlen ?_;have:=ih (j+1) (by omega) (by omega) (fun k=>X (k+1)) v (Ev.shift hX);rw [List.take_succ_eq_append_getElem hj',List.map_append,hml] at this;exact this
  have hml:(((List.range (nF A B)).map (fun (i:Nat)=>(⟨bF A (i:Int),bF B (i:Int)⟩:P2))).map fun q=>DC q.f0 q.f1)=(fM DC A B).f2:=by
    simp [fM,List.map_map,Function.comp_def]
  have hll:((((List.range (nF A B)).map (fun (i:Nat)=>(⟨bF A (i:Int),bF B (i:Int)⟩:P2)))).length:Int)=(fM DC A B).f1:=by simp [fM]
  have fin:∀ v,Ev (fun k=>(dH.f k (fM DC A B).f0 (fM DC A B).f1 (fM DC A B).f2 (fM DC A B).f3).bind fun aa=>(if (decide (aa=0))=true then ((dK.f k (fM DC A B).f0 (fM DC A B).f1 (fM DC A B).f2 (fM DC A B).f3).bind fun t16=>(some ((⟨t16.f0,t16.f1,t16.f2,t16.f3⟩:Fm),(0:Int)))) else (if (decide (aa=3))=true then some (noF,3) else some (noF,51)))) v →
      Ev (fun k=>dJ.f k p c core odd p' c' fu kr) v:=fun v hv=>by
    unfold dJ.f;refine Ev.bind ca (Ev.bind cb (Ev.bind c1 (Ev.no (by simp) (Ev.bind od (Ev.bind d1 (Ev.no (by simp) (Ev.bind e1 (Ev.no (by simp) ?_))))))));unfold dJ.l0;have k2:=l2 (iK A B).length 0 (by omega) (by omega) (fun k ab=>(dH.f k (fM DC A B).f0 (fM DC A B).f1 (fM DC A B).f2 ab).bind fun aa=>(if (decide (aa=0))=true then ((dK.f k (fM DC A B).f0 (fM DC A B).f1 (fM DC A B).f2 ab).bind fun t16=>(some ((⟨t16.f0,t16.f1,t16.f2,t16.f3⟩:Fm),(0:Int)))) else (if (decide (aa=3))=true then some (noF,3) else some (noF,51)))) v hv;have k1:=l1 ((List.range (nF A B)).map (fun (i:Nat)=>(⟨bF A (i:Int),bF B (i:Int)⟩:P2))) (by simp;omega) _ 0 rfl (by omega) (fun k ac=>dJ.l2 (fun ab=>(dH.f k (fM DC A B).f0 (fM DC A B).f1 ac ab).bind fun aa=>(if (decide (aa=0))=true then ((dK.f k (fM DC A B).f0 (fM DC A B).f1 ac ab).bind fun t16=>(some ((⟨t16.f0,t16.f1,t16.f2,t16.f3⟩:Fm),(0:Int)))) else (if (decide (aa=3))=true then some (noF,3) else some (noF,51)))) (iK A B) ((iK A B).map fun i=>(⟨(vF A i).1,(vF B i).1⟩:P2)) (((iK A B).map fun i=>(⟨(vF A i).1,(vF B i).1⟩:P2)).length:Int) k 0 []) v (by rw [hml];exact k2);simp only [hll] at k1 ⊢;exact k1
  by_cases hg:grF (fM DC A B)
  · have he:e=0:=f4.2 ⟨by omega,hg⟩
    subst he;obtain ⟨h,h1,h2⟩:=j5 (p:=(fM DC A B).f0) (c:=(fM DC A B).f1) (core:=(fM DC A B).f2) (odd:=(fM DC A B).f3) hg.s;have r1:=fin (h,0) (Ev.bind f1 (Ev.yes rfl (Ev.bind h1 (Ev.now _))));exact ⟨_,r1,fun hh=>absurd hal hh,fun _=>⟨fun hh=>absurd hg hh,fun _=>⟨h,h2,rfl⟩⟩⟩
  · have he:e=50:=by
      rcases f2 with e' | e' | e'
      · exact absurd (f4.1 e').2 hg
      · exact absurd (f3.1 e') (by omega)
      · exact e'
    subst he;have r1:=fin (noF,51) (Ev.bind f1 (Ev.no (by simp) (Ev.no (by simp) (Ev.now _))));exact ⟨_,r1,fun hh=>absurd hal hh,fun _=>⟨fun _=>rfl,fun hh=>absurd hh hg⟩⟩
theorem abJ {p c p' c':Int} {core fu:List (List Sp)} {odd kr:List Gn} {A B:Fm} (ca:Ev (fun k=>dK.f k p c core odd) A) (cb:Ev (fun k=>dK.f k p' c' fu kr) B) (H:OfH A B) (hs:kS (fM DL A B).f2 (fM DL A B).f3≤60000) :
    ∃ r,Ev (fun k=>dG.f k p c core odd p' c' fu kr) r∧OfS DL A B r:=by
  obtain ⟨r1,c1,c2,c3⟩:=tV H;have hn:=H.n;have ho:=H.o;have hil:=mX A B;unfold dG.f;by_cases hf:mG A B
  case neg =>
    have:=c3 hf;subst this;exact ⟨_,Ev.bind ca (Ev.bind cb (Ev.bind c1 (Ev.yes (by simp) (Ev.now _)))),fun _=>rfl,fun h=>absurd h.1 hf⟩
  have:=c2 hf;subst this;obtain ⟨b1,d1,d2⟩:=l8 ((List.range (nF A B)).map (fun (i:Nat)=>(⟨bF A (i:Int),bF B (i:Int)⟩:P2))) (by simp;omega) (fun q hq=>by
    obtain ⟨i,_,rfl⟩:=List.mem_map.1 hq;exact nP H.sa _)
  obtain ⟨b2,e1,e2⟩:=l8 ((iK A B).map fun i=>(⟨(vF A i).1,(vF B i).1⟩:P2)) (by simp;omega) (fun q hq=>by
    obtain ⟨i,_,rfl⟩:=List.mem_map.1 hq;exact jL H.sa _)
  have od:=wS H;cases b1 with
  | false =>
    refine ⟨_,Ev.bind ca (Ev.bind cb (Ev.bind c1 (Ev.no (by simp) (Ev.bind od (Ev.bind d1 (Ev.yes rfl (Ev.now _))))))),fun _=>rfl,fun h => ?_⟩;exact absurd (d2.2 fun q hq=>by
      obtain ⟨i,hi,rfl⟩:=List.mem_map.1 hq;exact h.2.1 i (List.mem_range.1 hi)) (by simp)
  | true =>
  cases b2 with
  | false =>
    refine ⟨_,Ev.bind ca (Ev.bind cb (Ev.bind c1 (Ev.no (by simp) (Ev.bind od (Ev.bind d1 (Ev.no (by simp) (Ev.bind e1 (Ev.yes rfl (Ev.now _))))))))),fun _=>rfl,fun h => ?_⟩;exact absurd (e2.2 fun q hq=>by
      obtain ⟨i,hi,rfl⟩:=List.mem_map.1 hq;exact h.2.2 i hi) (by simp)
  | true =>
  have hal:kF A B:=⟨hf,fun i hi=>d2.1 rfl _ (List.mem_map.2 ⟨i,List.mem_range.2 hi,rfl⟩),fun i hi=>e2.1 rfl _ (List.mem_map.2 ⟨i,hi,rfl⟩)⟩;have m:MF (fM DL A B).f2 (fM DL A B).f3:=by
    refine ⟨fun l hl => ?_,fun g hg => ?_⟩
    · obtain ⟨i,_,rfl⟩:=List.mem_map.1 hl
      have q1:=nP H.sa (i:Int);have q2:=nP H.sb (i:Int);rcases aha (bF A (i:Int)) (bF B (i:Int)) with e | e | e
      · rw [e];omega
      · rw [e];omega
      · rw [e];simp
    · obtain ⟨i,_,rfl⟩:=List.mem_map.1 hg
      have q1:(vF A i).1.length≤4611686018427387904:=jL H.sa i;have q2:(vF B i).1.length≤4611686018427387904:=jL H.sb i;show (DL (vF A i).1 (vF B i).1).length≤_;rcases aha (vF A i).1 (vF B i).1 with e | e | e
      · rw [e];omega
      · rw [e];omega
      · rw [e];simp
  obtain ⟨n,⟨_,g2⟩,e,f1,f2,f3,f4⟩:=nM (p:=(fM DL A B).f0) (c:=(fM DL A B).f1) m (by simp [fM];omega) (by simp [fM];omega);have hne:=g2 (by omega);have l1:∀ (L:List P2),L.length≤6000→∀ (d j:Nat),L.length - j=d→j≤L.length→∀ (X:Nat→List (List Sp)→Option (Fm × Int)) (v:Fm × Int),Ev (fun k=>X k (L.map fun q=>DL q.f0 q.f1)) v→Ev (fun k=>dG.l1 (X k) L (L.length:Int) k (j:Int) ((L.take j).map fun q=>DL q.f0 q.f1)) v:=by
    intro L hL d;induction d with
    | zero =>
      intro j hd hj X v hX;obtain rfl:j=L.length:=by omega
      refine Ev.step (f:=fun k=>X (k+1) (L.map fun q=>DL q.f0 q.f1)) (fun k => ?_) (Ev.shift hX);have c1:¬ (L.length:Int)<(L.length:Int):=by omega
      simp only [dG.l1,dG.l1T,decide_eq_true_eq,c1,if_false,List.take_length]
    | succ d ih =>
      intro j hd hj X v hX;have hj':j<L.length:=by omega
      have c1:(j:Int)<(L.length:Int):=by omega
      have c2:(0:Int)≤(j:Int):=by omega
      have hw:=nx c1 c2 (by omega);refine Ev.step (fun k=>rfl) ?_;simp only [dG.l1,dG.l1T,decide_eq_true_eq,c1,c2,if_true,hw,rdP _ j hj',afR,Option.bind_some];have hlen:((L.take j).map fun q=>DL q.f0 q.f1).length+1≤5864062014805:=by simp;omega
      refine Ev.yes hlen ?_;have:=ih (j+1) (by omega) (by omega) (fun k=>X (k+1)) v (Ev.shift hX);rw [List.take_succ_eq_append_getElem hj',List.map_append] at this;exact this
  have l2:∀ (d j:Nat),(iK A B).length - j=d→j≤(iK A B).length→∀ (X:Nat→List Gn→Option (Fm × Int)) (v:Fm × Int),Ev (fun k=>X k (fM DL A B).f3) v→Ev (fun k=>dG.l2 (X k) (iK A B) ((iK A B).map fun i=>(⟨(vF A i).1,(vF B i).1⟩:P2)) (((iK A B).map fun i=>(⟨(vF A i).1,(vF B i).1⟩:P2)).length:Int) k (j:Int) (((iK A B).take j).map fun i=>⟨i,DL (vF A i).1 (vF B i).1⟩)) v:=by
    intro d;have hml:((iK A B).map fun i=>(⟨(vF A i).1,(vF B i).1⟩:P2)).length=(iK A B).length:=by simp
    induction d with
    | zero =>
      intro j hd hj X v hX;obtain rfl:j=(iK A B).length:=by omega
      refine Ev.step (f:=fun k=>X (k+1) (fM DL A B).f3) (fun k => ?_) (Ev.shift hX);have c1:¬ ((iK A B).length:Int)<((iK A B).length:Int):=by omega
      simp only [dG.l2,dG.l2T,decide_eq_true_eq,hml,c1,if_false,List.take_length];rfl
    | succ d ih =>
      intro j hd hj X v hX;have hj':j<(iK A B).length:=by omega
      have c1:(j:Int)<((iK A B).length:Int):=by omega
      have c2:(0:Int)≤(j:Int):=by omega
      have hw:=nx c1 c2 (by omega);refine Ev.step (fun k=>rfl) ?_;simp only [dG.l2,dG.l2T,decide_eq_true_eq,hml,c1,c2,if_true,hw,rdP _ j (show j<((iK A B).map fun i=>(⟨(vF A i).1,(vF B i).1⟩:P2)).length by rw [hml];exact hj'),rdI _ j hj',afR,Option.bind_some,List.getElem_map];have hlen:(((iK A B).take j).map fun i=>(⟨i,DL (vF A i).1 (vF B i).1⟩:Gn)).length+1≤4398046511104:=by simp;omega
      refine Ev.yes hlen ?_;have:=ih (j+1) (by omega) (by omega) (fun k=>X (k+1)) v (Ev.shift hX);rw [List.take_succ_eq_append_getElem hj',List.map_append,hml] at this;exact this
  have hml:(((List.range (nF A B)).map (fun (i:Nat)=>(⟨bF A (i:Int),bF B (i:Int)⟩:P2))).map fun q=>DL q.f0 q.f1)=(fM DL A B).f2:=by
    simp [fM,List.map_map,Function.comp_def]
  have hll:((((List.range (nF A B)).map (fun (i:Nat)=>(⟨bF A (i:Int),bF B (i:Int)⟩:P2)))).length:Int)=(fM DL A B).f1:=by simp [fM]
  have fin:∀ v,Ev (fun k=>(dH.f k (fM DL A B).f0 (fM DL A B).f1 (fM DL A B).f2 (fM DL A B).f3).bind fun aa=>(if (decide (aa=0))=true then ((dK.f k (fM DL A B).f0 (fM DL A B).f1 (fM DL A B).f2 (fM DL A B).f3).bind fun t16=>(some ((⟨t16.f0,t16.f1,t16.f2,t16.f3⟩:Fm),(0:Int)))) else (if (decide (aa=3))=true then some (noF,3) else some (noF,51)))) v →
      Ev (fun k=>dG.f k p c core odd p' c' fu kr) v:=fun v hv=>by
    unfold dG.f;refine Ev.bind ca (Ev.bind cb (Ev.bind c1 (Ev.no (by simp) (Ev.bind od (Ev.bind d1 (Ev.no (by simp) (Ev.bind e1 (Ev.no (by simp) ?_))))))));unfold dG.l0;have k2:=l2 (iK A B).length 0 (by omega) (by omega) (fun k ab=>(dH.f k (fM DL A B).f0 (fM DL A B).f1 (fM DL A B).f2 ab).bind fun aa=>(if (decide (aa=0))=true then ((dK.f k (fM DL A B).f0 (fM DL A B).f1 (fM DL A B).f2 ab).bind fun t16=>(some ((⟨t16.f0,t16.f1,t16.f2,t16.f3⟩:Fm),(0:Int)))) else (if (decide (aa=3))=true then some (noF,3) else some (noF,51)))) v hv;have k1:=l1 ((List.range (nF A B)).map (fun (i:Nat)=>(⟨bF A (i:Int),bF B (i:Int)⟩:P2))) (by simp;omega) _ 0 rfl (by omega) (fun k ac=>dG.l2 (fun ab=>(dH.f k (fM DL A B).f0 (fM DL A B).f1 ac ab).bind fun aa=>(if (decide (aa=0))=true then ((dK.f k (fM DL A B).f0 (fM DL A B).f1 ac ab).bind fun t16=>(some ((⟨t16.f0,t16.f1,t16.f2,t16.f3⟩:Fm),(0:Int)))) else (if (decide (aa=3))=true then some (noF,3) else some (noF,51)))) (iK A B) ((iK A B).map fun i=>(⟨(vF A i).1,(vF B i).1⟩:P2)) (((iK A B).map fun i=>(⟨(vF A i).1,(vF B i).1⟩:P2)).length:Int) k 0 []) v (by rw [hml];exact k2);simp only [hll] at k1 ⊢;exact k1
  by_cases hg:grF (fM DL A B)
  · have he:e=0:=f4.2 ⟨by omega,hg⟩
    subst he;obtain ⟨h,h1,h2⟩:=j5 (p:=(fM DL A B).f0) (c:=(fM DL A B).f1) (core:=(fM DL A B).f2) (odd:=(fM DL A B).f3) hg.s;have r1:=fin (h,0) (Ev.bind f1 (Ev.yes rfl (Ev.bind h1 (Ev.now _))));exact ⟨_,r1,fun hh=>absurd hal hh,fun _=>⟨fun hh=>absurd hg hh,fun _=>⟨h,h2,rfl⟩⟩⟩
  · have he:e=50:=by
      rcases f2 with e' | e' | e'
      · exact absurd (f4.1 e').2 hg
      · exact absurd (f3.1 e') (by omega)
      · exact e'
    subst he;have r1:=fin (noF,51) (Ev.bind f1 (Ev.no (by simp) (Ev.no (by simp) (Ev.now _))));exact ⟨_,r1,fun hh=>absurd hal hh,fun _=>⟨fun _=>rfl,fun hh=>absurd hh hg⟩⟩
end Go.Proofs.YtcomnjodjijcmaaGreat.Q
namespace Go.Proofs.YtcomnjodjijcmaaGreat.Q
set_option linter.unusedVariables false
set_option linter.unusedSimpArgs false
open Go.RowKit Go.Proofs.YtcomnjodjijcmaaGreatW.dz Go.Proofs.YtcomnjodjijcmaaGreatW.eD M R P
section
theorem ade (l:List Int):(jU l).Pairwise (· ≤ ·) :=
  (List.pairwise_mergeSort (le:=fun x y=>decide (x≤y)) (fun a b c h1 h2=>by simp only [decide_eq_true_eq] at *;omega) (fun a b=>by simp only [Bool.or_eq_true,decide_eq_true_eq];omega) l).imp (fun h=>by simpa using h)
theorem abK {l:List Int} {x:Int}:x∈jU l↔x∈l:=(List.mergeSort_perm l _).mem_iff
theorem oQ (zs:List Int) (j:Nat) (h:j<zs.length):zs.toArray[j]! = zs[j]:=by simp [h]
theorem zQ {zs:List Int} (h:zs.Pairwise (· ≤ ·)):(iN zs).Pairwise (· < ·):=by
  unfold iN Lib.compact Lib.compactUpTo;rw [List.pairwise_map];refine List.Pairwise.imp_of_mem (R:=(· < ·)) (fun {i j} hi hj hij => ?_) (List.pairwise_lt_range.filter _);have hi':=List.mem_range.1 (List.mem_filter.1 hi).1;obtain ⟨hj1,hj2⟩:=List.mem_filter.1 hj;have hj':=List.mem_range.1 hj1;rw [oQ zs i hi',oQ zs j hj'];have hk:zs.toArray[j]! ≠ zs.toArray[j - 1]! := by
    have:j=0∨zs.toArray[j]! ≠ zs.toArray[j - 1]! := of_decide_eq_true hj2;rcases this with e | e
    · omega
    · exact e
  rw [oQ zs j hj',oQ zs (j - 1) (by omega)] at hk;have h1:zs[j - 1]'(by omega)≤zs[j]:=List.pairwise_iff_getElem.1 h (j - 1) j (by omega) hj' (by omega);have h2:zs[i]≤zs[j - 1]'(by omega):=by
    rcases Nat.lt_or_ge i (j - 1) with g | g
    · exact List.pairwise_iff_getElem.1 h i (j - 1) hi' (by omega) g
    · have:i=j - 1:=by omega
      subst this;exact Int.le_refl _
  omega
theorem wT {zs:List Int} {x:Int}:x∈iN zs↔x∈zs:=by
  unfold iN Lib.compact Lib.compactUpTo;rw [List.mem_map];constructor
  · rintro ⟨j,hj,rfl⟩
    have hj':=List.mem_range.1 (List.mem_filter.1 hj).1;rw [oQ zs j hj'];exact List.getElem_mem hj'
  · intro hx
    obtain ⟨j0,hj0,e0⟩:=List.mem_iff_getElem.1 hx;obtain ⟨j,⟨hj,e⟩,hm⟩:=least (P:=fun j=>∃ h:j<zs.length,zs[j]=x) j0 ⟨hj0,e0⟩;refine ⟨j,List.mem_filter.2 ⟨List.mem_range.2 hj,decide_eq_true ?_⟩,by rw [oQ zs j hj];exact e⟩;rcases Nat.eq_zero_or_pos j with g | g
    · exact .inl g
    · right
      rw [oQ zs j hj,oQ zs (j - 1) (by omega),e];exact fun e2=>hm (j - 1) (by omega) ⟨by omega,e2.symm⟩
theorem yJ:∀ {a b:List Int},a.Pairwise (· < ·)→b.Pairwise (· < ·)→(∀ x,x∈a↔x∈b)→a=b
  | [],[],_,_,_=>rfl
  | [],y :: b,_,_,h=>absurd ((h y).2 (by simp)) (by simp)
  | x :: a,[],_,_,h=>absurd ((h x).1 (by simp)) (by simp)
  | x :: a,y :: b,ha,hb,h=>by
    obtain ⟨h1,h2⟩:=List.pairwise_cons.1 ha;obtain ⟨h3,h4⟩:=List.pairwise_cons.1 hb;have hxy:x=y:=by
      rcases List.mem_cons.1 ((h x).1 (by simp)) with e | e
      · exact e
      · rcases List.mem_cons.1 ((h y).2 (by simp)) with e' | e'
        · exact e'.symm
        · have:=h3 x e;have:=h1 y e';omega
    subst hxy;rw [yJ h2 h4 (fun z => ?_)];have hz:=h z;simp only [List.mem_cons] at hz;constructor
    · intro hm
      rcases hz.1 (.inr hm) with e | e
      · have:=h1 z hm;omega
      · exact e
    · intro hm
      rcases hz.2 (.inr hm) with e | e
      · have:=h3 z hm;omega
      · exact e
theorem yK (A B:Fm):(iK A B).Pairwise (· < ·):=zQ (ade _)
theorem qE {A B:Fm} {i:Int}:i∈iK A B↔(∃ g∈A.f3,g.f0=i)∨∃ g∈B.f3,g.f0=i:=by
  unfold iK;rw [wT,abK,List.mem_map];constructor
  · rintro ⟨g,hg,rfl⟩
    rcases List.mem_append.1 hg with h | h
    · exact .inl ⟨g,h,rfl⟩
    · exact .inr ⟨g,h,rfl⟩
  · rintro (⟨g,hg,rfl⟩ | ⟨g,hg,rfl⟩)
    · exact ⟨g,List.mem_append_left _ hg,rfl⟩
    · exact ⟨g,List.mem_append_right _ hg,rfl⟩
theorem yL (A B:Fm):iK A B=iK B A:=yJ (yK A B) (yK B A) fun x=>by rw [qE,qE,or_comm]
def gF (A:Fm) (i:Int):List Sp:=gT A.f0 A.f1 A.f2 A.f3 i
def cnF (A:Fm):Prop:=Can A.f0 A.f1 A.f2 A.f3
theorem kI {A:Fm} {i:Int} (h:∀ g∈A.f3,g.f0≠i):gF A i=bF A i:=by
  unfold gF bF;rw [kH (iT.2 h),nN]
theorem rO {A B:Fm} (a:cnF A) (b:cnF B) (eq:∀ i,gF A i=gF B i):A=B:=by
  have key:=aeM a b (x:=1099511627776) (L:=2*((B.f2.length*A.f2.length:Nat):Int)+A.f2.length+B.f2.length) (by omega) (by omega) (by omega) (fun i h1 h2=>by
    have:=eq i;rw [kI (fun g hg e=>by have:=(a.s.hidx g hg).2;omega),kI (fun g hg e=>by have:=(b.s.hidx g hg).2;omega)] at this;exact this) (fun i _=>j6 (eq i))
  obtain ⟨e0,e1,e2,e3⟩:=key;cases A;cases B;simp only at e0 e1 e2 e3;subst e0;subst e1;subst e2;subst e3;rfl
theorem oD:cnF noF:=⟨⟨rfl,Int.le_refl _,by decide,by simp [noF],by simp [noF],by simp [noF],by simp [noF],by simp [noF],by simp [noF],by simp [noF]⟩,fun d h=>by simp [noF] at h,fun h=>absurd rfl h,fun g hg=>by simp [noF] at hg⟩
theorem adF (i:Int):gF noF i=[]:=rfl
theorem qF {A:Fm} (h:A.f2=[]) (i:Int):bF A i=[]:=abD h
theorem adG {a b:Nat} (ha:a≠0):a ∣ rn a b:=by
  unfold rn;rw [if_neg ha];split
  · exact Nat.dvd_refl _
  · exact Nat.dvd_lcm_left a b
theorem afS {A B:Fm} (h:sfF A):A.f2≠[]→Stp (bF A) (nF A B) (tF A B):=fun hne=>by
  have hl:A.f2.length≠0:=fun e=>hne (List.length_eq_zero_iff.1 e);have s:=wR (kE h (by omega)) (nF A B / A.f2.length);have e1:nF A B / A.f2.length*A.f2.length=nF A B:=Nat.div_mul_cancel (adG hl);have e2:((nF A B / A.f2.length:Nat):Int)*A.f0=tF A B:=by
    unfold tF rt;rw [if_neg hl,Int.mul_comm];rfl
  rw [e1,e2] at s;exact s
theorem abL {B:Int→List Sp} (h:∀ i,B i=[]) (n:Nat) (t:Int):Stp B n t:=fun i=>by rw [h,h];rfl
theorem abM {A B:Fm} (ha:sfF A) (hb:sfF B) (h:A.f2=[]):tF A B=tF B A:=by
  have h0:A.f2.length=0:=by rw [h];rfl
  have q0:A.f0=0:=ha.hz.1 (by rw [ha.hc,h0];rfl);by_cases hB:B.f2.length=0
  · have q1:B.f0=0:=hb.hz.1 (by rw [hb.hc,hB];rfl)
    unfold tF rt;rw [if_pos h0,if_pos hB,q0,q1]
  · unfold tF rt rn
    rw [if_pos h0,if_neg hB,if_neg hB,if_pos h0,Nat.div_self (by omega)];simp
theorem adf {A B:Fm} (ha:sfF A) (hb:sfF B) (hf:mG A B):Stp (bF A) (nF A B) (tF A B)∧Stp (bF B) (nF A B) (tF A B):=by
  constructor
  · by_cases e:A.f2=[]
    · exact abL (qF e) _ _
    · exact afS ha e
  · by_cases e:B.f2=[]
    · exact abL (qF e) _ _
    · have:=afS (B:=A) hb e
      rw [oC B A] at this;have et:tF B A=tF A B:=by
        rcases hf with g | g | g
        · exact (abM ha hb g).symm
        · exact absurd g e
        · exact g.symm
      rwa [et] at this
theorem abN {a b:Nat} (h:rn a b=0):a=0∧b=0:=by
  unfold rn at h;split at h
  · exact ⟨by assumption,h⟩
  · split at h
    · exact ⟨h,by assumption⟩
    · have:=Nat.lcm_pos (m:=a) (n:=b) (by omega) (by omega)
      omega
structure vN (D:List Sp→List Sp→List Sp):Prop where
  one:oneOf D
  sh:∀ n x y,D (x.map (eO n)) (y.map (eO n))=(D x y).map (eO n)
theorem qQ:vN DU:=⟨ag8,fun n x y=>by
  unfold DU;by_cases h:x=[]
  · rw [if_pos h,if_pos (by rw [h];rfl)]
  · rw [if_neg h,if_neg (by simpa using h)]⟩
theorem nQ:vN DC:=⟨ag9,fun n x y=>by
  unfold DC;by_cases h:y=[]
  · rw [if_pos h,if_pos (by rw [h];rfl)];rfl
  · rw [if_neg h,if_neg (by simpa using h)]⟩
theorem vI:vN DL:=⟨aha,fun n x y=>by
  unfold DL;by_cases h:y=[]
  · rw [if_pos h,if_pos (by rw [h];rfl)]
  · rw [if_neg h,if_neg (by simpa using h)];rfl⟩
theorem vN.nil {D:List Sp→List Sp→List Sp} (h:vN D):D [] []=[]:=by
  rcases h.one [] [] with e | e | e <;> exact e
theorem vJ {D:List Sp→List Sp→List Sp} (hD:vN D) {A B:Fm} (ha:sfF A) (hb:sfF B) (hf:mG A B) (i:Int):bF (fM D A B) i=D (bF A i) (bF B i):=by
  by_cases hn:nF A B=0
  · obtain ⟨e1,e2⟩:=abN hn
    have z1:A.f2=[]:=List.length_eq_zero_iff.1 e1;have z2:B.f2=[]:=List.length_eq_zero_iff.1 e2;rw [qF z1,qF z2,hD.nil];refine qF ?_ i;show (List.range (nF A B)).map _=[];rw [hn];rfl
  · obtain ⟨s1,s2⟩:=adf ha hb hf
    have q1:=Int.emod_nonneg i (show (nF A B:Int)≠0 by omega);have q2:=Int.emod_lt_of_pos i (show (0:Int)<(nF A B:Int) by omega);have q3:i % (nF A B:Int)+i / (nF A B:Int)*(nF A B:Int)=i:=by
      have:=Int.emod_add_mul_ediv i (nF A B:Int);rw [Int.mul_comm] at this;exact this
    have e1:=tO s1 (i % (nF A B:Int)) (i / (nF A B:Int));have e2:=tO s2 (i % (nF A B:Int)) (i / (nF A B:Int));rw [q3] at e1 e2;rw [e1,e2,hD.sh];show (fO (nF A B:Int) ((List.range (nF A B)).map (fun (i:Nat)=>D (bF A (i:Int)) (bF B (i:Int)))) i).map (eO (i / (nF A B:Int)*tF A B))=_;unfold fO;rw [if_neg (by omega)];have hlt:(i % (nF A B:Int)).toNat<nF A B:=by omega
    have hco:(((i % (nF A B:Int)).toNat:Nat):Int)=i % (nF A B:Int):=by omega
    rw [List.getD_eq_getElem?_getD,List.getElem?_map,List.getElem?_range hlt];simp only [Option.map_some,Option.getD_some,hco]
theorem aeO {D:List Sp→List Sp→List Sp} {A B:Fm} {i:Int} (hi:i∈iK A B):iW (fM D A B).f3 i=some (D (vF A i).1 (vF B i).1):=by
  have hu:(fM D A B).f3.Pairwise (fun a b=>a.f0<b.f0):=by
    show ((iK A B).map fun i=>(⟨i,D (vF A i).1 (vF B i).1⟩:Gn)).Pairwise _;rw [List.pairwise_map];exact yK A B
  exact kR hu (g:=⟨i,D (vF A i).1 (vF B i).1⟩) (List.mem_map.2 ⟨i,hi,rfl⟩)
theorem rP {D:List Sp→List Sp→List Sp} (hD:vN D) {A B:Fm} (ha:sfF A) (hb:sfF B) (hf:mG A B) (va:∀ i∈iK A B,(vF A i).1=gF A i) (vb:∀ i∈iK A B,(vF B i).1=gF B i) (i:Int):gF (fM D A B) i=D (gF A i) (gF B i):=by
  by_cases hi:i∈iK A B
  · have:=aeO (D:=D) hi
    have e:gF (fM D A B) i=D (vF A i).1 (vF B i).1:=mV this;rw [e,va i hi,vb i hi]
  · have h1:∀ g∈A.f3,g.f0≠i:=fun g hg e=>hi (qE.2 (.inl ⟨g,hg,e⟩))
    have h2:∀ g∈B.f3,g.f0≠i:=fun g hg e=>hi (qE.2 (.inr ⟨g,hg,e⟩));have h3:∀ g∈(fM D A B).f3,g.f0≠i:=fun g hg e=>by
      obtain ⟨j,hj,rfl⟩:=List.mem_map.1 hg;exact hi (e ▸ hj)
    rw [kI h1,kI h2,kI h3,vJ hD ha hb hf]
theorem abO {A B:Fm} (h:mG A B):mG B A:=by
  rcases h with e | e | e
  · exact .inr (.inl e)
  · exact .inl e
  · exact .inr (.inr e.symm)
theorem rQ {A B:Fm} (h:kF A B):kF B A:=⟨abO h.1,fun i hi=>abG (h.2.1 i (by rw [oC];exact hi)),fun i hi=>abG (h.2.2 i (by rw [yL];exact hi))⟩
theorem aeP {x y:List Sp} (h:al x y):DU x y=DU y x:=by
  unfold DU;by_cases hx:x=[]
  · by_cases hy:y=[]
    · rw [if_pos hx,if_pos hy,hx,hy]
    · rw [if_pos hx,if_neg hy]
  · by_cases hy:y=[]
    · rw [if_neg hx,if_pos hy]
    · rw [if_neg hx,if_neg hy,h hx hy]
theorem aeQ {x y:List Sp} (h:al x y):DC x y=DC y x:=by
  unfold DC;by_cases hx:x=[]
  · by_cases hy:y=[]
    · rw [if_pos hx,if_pos hy]
    · rw [if_pos hx,if_neg hy,hx]
  · by_cases hy:y=[]
    · rw [if_neg hx,if_pos hy,hy]
    · rw [if_neg hx,if_neg hy,h hx hy]
theorem adg {D:List Sp→List Sp→List Sp} (hc:∀ {x y},al x y→D x y=D y x) {A B:Fm} (ha:sfF A) (hb:sfF B) (h:kF A B):fM D A B=fM D B A:=by
  have et:tF A B=tF B A:=by
    rcases h.1 with g | g | g
    · exact abM ha hb g
    · exact (abM hb ha g).symm
    · exact g
  unfold fM;rw [← oC A B,← yL A B,et];have e1:((List.range (nF A B)).map (fun (i:Nat)=>D (bF A (i:Int)) (bF B (i:Int))))=((List.range (nF A B)).map (fun (i:Nat)=>D (bF B (i:Int)) (bF A (i:Int)))):=List.map_congr_left fun i hi=>hc (h.2.1 i (List.mem_range.1 hi));have e2:((iK A B).map fun i=>(⟨i,D (vF A i).1 (vF B i).1⟩:Gn))=(iK A B).map fun i=>(⟨i,D (vF B i).1 (vF A i).1⟩:Gn):=List.map_congr_left fun i hi=>by rw [hc (h.2.2 i hi)]
  rw [e1,e2]
end
end Go.Proofs.YtcomnjodjijcmaaGreat.Q
namespace Go.Proofs.YtcomnjodjijcmaaGreat.Q
set_option linter.unusedVariables false
set_option linter.unusedSimpArgs false
open Go.RowKit Go.Proofs.YtcomnjodjijcmaaGreatW.dz Go.Proofs.YtcomnjodjijcmaaGreatW.eD M R P
section
variable {p c:Int} {core:List (List Sp)} {odd:List Gn}
theorem mW.abP (w:mW p c core odd) {i:Int} (hi : -6000≤i∧i≤6000):jm p c core odd i=(gT p c core odd i,0):=by
  by_cases hz:fs c core odd i=[]
  · have e:gT p c core odd i=[]:=by unfold gT;rw [hz];rfl
    rw [lV,if_pos (by unfold inR;omega),if_pos e,e]
  · exact w.ok.s.ou (w.ex hi hz)
theorem mW.bare (w:mW p c core odd) {i:Int} (hi:100<i):gT p c core odd i=bT p c core i:=by
  rw [← nN];exact kH (iT.2 (fun g hg e=>by have:=(w.ho g hg).1;omega))
end
end Go.Proofs.YtcomnjodjijcmaaGreat.Q
namespace Go.Proofs.YtcomnjodjijcmaaGreat.Q
set_option linter.unusedVariables false
set_option linter.unusedSimpArgs false
open Go.RowKit Go.Proofs.YtcomnjodjijcmaaGreatW.dz Go.Proofs.YtcomnjodjijcmaaGreatW.eD M R P
section
def okL (l:List Sp):Prop:=∀ s∈l,-100000000≤s.f0∧s.f1≤100000000
theorem abQ:okL []:=fun s h=>by simp at h
structure NF (A:Fm):Prop where
  cn:cnF A
  gr:grF A
  lc:A.f2.length≤144
  lo:A.f3.length≤16
  hp:A.f0≤10000
  ix:∀ g∈A.f3,-100≤g.f0∧g.f0≤100
  tk:∀ i,-1000≤i→i≤1000→okL (gF A i)
  tb:∀ i,-1000≤i→i≤1000→okL (bF A i)
  ln:∀ i,(gF A i).length≤60
  lb:∀ i,(bF A i).length≤60
theorem SL.tight {lo hi lo' hi':Int}:∀ {l:List Sp},SL lo hi l→(∀ s∈l,lo'≤s.f0∧s.f1≤hi')→SL lo' hi' l
  | [],_,_=>trivial
  | s :: r,⟨h1,h2,h3,h4⟩,h=>⟨(h s (by simp)).1,h2,(h s (by simp)).2,SL.tight h4 (fun t ht=>⟨(SL.ticks h4 ht).1,(h t (by simp [ht])).2⟩)⟩
theorem aeR {A:Fm} (h:sfF A) {i:Int} (hk:okL (gF A i)):SL (-1099511627776) 1099511627776 (gF A i):=by
  have:=SL.shift (lo:=0) (fb A.f0 A.f1 A.f3 i) (h.sS i);exact SL.tight this (fun s hs=>by have:=hk s hs;omega)
theorem afT {A:Fm} (h:sfF A) {i:Int} (hk:okL (bF A i)):SL (-1099511627776) 1099511627776 (bF A i):=by
  have e:bF A i=gT A.f0 A.f1 A.f2 [] i:=(nN i).symm;rw [e] at hk ⊢;have:=SL.shift (lo:=0) (fb A.f0 A.f1 [] i) (h.abd.sS i);exact SL.tight this (fun s hs=>by have:=hk s hs;omega)
theorem afU {A:Fm} (h:sfF A) {i:Int} (hr:inR i) (hk:okL (gF A i)):vF A i=(gF A i,0):=by
  unfold vF;rw [lV,if_pos hr];by_cases hn:gT A.f0 A.f1 A.f2 A.f3 i=[]
  · rw [if_pos hn]
    unfold gF;rw [hn]
  · rw [if_neg hn]
    unfold mvT;rw [if_pos]
    · rfl
    · refine List.all_eq_true.2 fun s hs=>qy.2 ?_
      have:=hk s hs;have:=SL.ticks (aeR h hk) hs;omega
theorem lg {i:Int} (h : -100000000≤i∧i≤100000000):inR i:=by unfold inR;omega
theorem NF.v {A:Fm} (h:NF A) {i:Int} (h1 : -1000≤i) (h2:i≤1000):vF A i=(gF A i,0):=afU h.cn.s (lg (by omega)) (h.tk i h1 h2)
theorem NF.ga {A:Fm} (h:NF A):A.f2≠[]→∃ l∈A.f2,l≠[]:=fun hn=>Classical.byContradiction fun hx=>h.cn.nb hn fun l hl=>Classical.byContradiction fun hl2=>hx ⟨l,hl,hl2⟩
theorem lq {A B:Fm} (a:NF A) (b:NF B):∀ i∈iK A B,-100≤i∧i≤100:=fun i hi=>by
  rcases qE.1 hi with ⟨g,hg,rfl⟩ | ⟨g,hg,rfl⟩
  · exact a.ix g hg
  · exact b.ix g hg
theorem aeS {A B:Fm} (a:NF A) (b:NF B) (hn:nF A B≤144):0≤tF A B∧tF A B≤1440000:=by
  have p1:=a.cn.s.hp0;have p2:=b.cn.s.hp0;have q1:=a.hp;have q2:=b.hp;unfold tF rt;split
  · omega
  · have hq:rn A.f2.length B.f2.length / A.f2.length≤144:=Nat.le_trans (Nat.div_le_self _ _) hn
    generalize rn A.f2.length B.f2.length / A.f2.length=q at hq;have h1:A.f0*(q:Int)≤10000*(q:Int):=Int.mul_le_mul_of_nonneg_right q1 (by omega);have h2:0≤A.f0*(q:Int):=Int.mul_nonneg p1 (by omega);omega
theorem NF.of {A B:Fm} (a:NF A) (b:NF B) (hn:nF A B≤144):OfH A B:=by
  have t1:=aeS a b hn;have t2:=aeS b a (by rw [oC];exact hn);have:=a.lo;have:=b.lo;have:=a.hp;have:=b.hp;exact ⟨a.cn.s,b.cn.s,a.ga,b.ga,by omega,by omega,by omega,by omega,by omega,fun i h1 h2 s hs=>by have:=a.tb i (by omega) (by omega) s hs;omega,fun i h1 h2 s hs=>by have:=b.tb i (by omega) (by omega) s hs;omega,by omega⟩
theorem oneOf.ok {D:List Sp→List Sp→List Sp} (h:oneOf D) {P:List Sp→Prop} (h0:P []) {x y:List Sp} (hx:P x) (hy:P y):P (D x y):=by
  rcases h x y with e | e | e
  · rw [e];exact hx
  · rw [e];exact hy
  · rw [e];exact h0
theorem jS {D:List Sp→List Sp→List Sp} (hD:vN D) {A B:Fm} (a:NF A) (b:NF B) (hn:nF A B≤144):kS (fM D A B).f2 (fM D A B).f3≤60000:=by
  have h1:(((fM D A B).f2).map fun l=>(l.length:Int)).sum≤((fM D A B).f2.length:Int)*60:=vG _ 60 (fun l hl=>by
    obtain ⟨i,_,rfl⟩:=List.mem_map.1 hl;have aa:(D (bF A (i:Int)) (bF B (i:Int))).length≤60:=hD.one.ok (P:=fun l=>l.length≤60) (by simp) (a.lb (i:Int)) (b.lb (i:Int));show ((D (bF A (i:Int)) (bF B (i:Int))).length:Int)≤60;omega)
  have h2:(((fM D A B).f3).map fun g=>(g.f1.length:Int)).sum≤((fM D A B).f3.length:Int)*60:=vG _ 60 (fun g hg=>by
    obtain ⟨i,hi,rfl⟩:=List.mem_map.1 hg;have hr:=lq a b i hi;have e1:=a.v (i:=i) (by omega) (by omega);have e2:=b.v (i:=i) (by omega) (by omega);have aa:(D (gF A i) (gF B i)).length≤60:=hD.one.ok (P:=fun l=>l.length≤60) (by simp) (a.ln i) (b.ln i);show ((D (vF A i).1 (vF B i).1).length:Int)≤60;rw [e1,e2];show ((D (gF A i) (gF B i)).length:Int)≤60;omega)
  have l1:(fM D A B).f2.length=nF A B:=by simp [fM]
  have l2:(fM D A B).f3.length=(iK A B).length:=by simp [fM]
  have:=mX A B;have:=a.lo;have:=b.lo;have e:kS (fM D A B).f2 (fM D A B).f3=(((fM D A B).f2).map fun l=>(l.length:Int)).sum+(((fM D A B).f3).map fun g=>(g.f1.length:Int)).sum:=rfl;rw [e];rw [l1] at h1;rw [l2] at h2;omega
theorem lC {D:List Sp→List Sp→List Sp} (hD:vN D) {A B:Fm} (a:NF A) (b:NF B) (hn:nF A B≤144):sfF (fM D A B):=by
  have t1:=aeS a b hn;have l1:(fM D A B).f2.length=nF A B:=by simp [fM]
  have l2:(fM D A B).f3.length=(iK A B).length:=by simp [fM]
  have hil:=mX A B;have:=a.lo;have:=b.lo;refine ⟨by rw [l1];rfl,t1.1,by show tF A B≤_;omega,?_,fun l hl => ?_,fun g hg => ?_,fun g hg => ?_,?_,by omega,by omega⟩
  · show (nF A B:Int)=0↔tF A B=0
    constructor
    · intro h
      obtain ⟨e1,e2⟩:=abN (show rn A.f2.length B.f2.length=0 from by have h:(nF A B:Int)=0:=h;unfold nF at h;omega);unfold tF rt;rw [if_pos e1];exact b.cn.s.hz.1 (by rw [b.cn.s.hc,e2];rfl)
    · intro h
      refine Classical.byContradiction fun hne => ?_;unfold tF rt at h;split at h
      · rename_i e1
        have hb:(B.f2.length:Int)=0:=by rw [← b.cn.s.hc];exact b.cn.s.hz.2 h
        exact hne (by unfold nF rn;rw [if_pos e1];exact hb)
      · rename_i e1
        have hq:1≤rn A.f2.length B.f2.length / A.f2.length:=(Nat.one_le_div_iff (by omega)).2 (Nat.le_of_dvd (by have hne:¬ (nF A B:Int)=0:=hne;unfold nF at hne;omega) (adG e1));have hp:A.f0≠0:=fun e=>e1 (by have:=a.cn.s.hz.2 e;rw [a.cn.s.hc] at this;omega);rcases Int.mul_eq_zero.1 h with e | e
        · exact hp e
        · omega
  · obtain ⟨i,hi,rfl⟩:=List.mem_map.1 hl
    have hi':=List.mem_range.1 hi;exact hD.one.ok (P:=fun l=>SL (-1099511627776) 1099511627776 l) trivial (afT a.cn.s (a.tb _ (by omega) (by omega))) (afT b.cn.s (b.tb _ (by omega) (by omega)))
  · obtain ⟨i,hi,rfl⟩:=List.mem_map.1 hg
    have hr:=lq a b i hi;have e1:=a.v (i:=i) (by omega) (by omega);have e2:=b.v (i:=i) (by omega) (by omega);show SL _ _ (D (vF A i).1 (vF B i).1);rw [e1,e2];exact hD.one.ok (P:=fun l=>SL (-1099511627776) 1099511627776 l) trivial (aeR a.cn.s (a.tk _ (by omega) (by omega))) (aeR b.cn.s (b.tk _ (by omega) (by omega)))
  · obtain ⟨i,hi,rfl⟩:=List.mem_map.1 hg
    have hr:=lq a b i hi;exact lg (by simp only;omega)
  · show ((iK A B).map fun i=>(⟨i,D (vF A i).1 (vF B i).1⟩:Gn)).Pairwise _
    rw [List.pairwise_map];exact yK A B
def aeT (A:Fm):Prop:=∀ i k,i<k→inR i→inR k→gF A i≠[]→gF A k≠[]→kT (gF A i)<kJ (gF A k)
theorem afV {A:Fm} (h:FOK A.f0 A.f1 A.f2 A.f3):aeT A:=fun i k hik ri rk hi hk=>by
  have n1:fs A.f1 A.f2 A.f3 i≠[]:=lF.2 hi;have n2:fs A.f1 A.f2 A.f3 k≠[]:=lF.2 hk;have:=h.ord i k hik ri rk n1 n2;have q1:=(kD (p:=A.f0) n1).2.2;have q2:=(kD (p:=A.f0) n2).2.1;unfold gF;omega
theorem adh {O A:Fm} (h:aeT A) (hp:∀ i,gF O i=gF A i∨gF O i=[]):aeT O:=fun i k hik ri rk hi hk=>by
  rcases hp i with e | e
  · rcases hp k with f | f
    · rw [e,f]
      rw [e] at hi;rw [f] at hk;exact h i k hik ri rk hi hk
    · exact absurd f hk
  · exact absurd e hi
theorem ahb {O:Fm} (s:sfF O) (hl:O.f2.length≤144) (hix:∀ g∈O.f3,-100≤g.f0∧g.f0≤100) (hk:∀ i,-1000≤i→i≤1000→okL (gF O i)) (h:aeT O):grF O:=by
  have hv:∀ i,-1000≤i→i≤1000→vF O i=(gF O i,0):=fun i h1 h2=>afU s (lg (by omega)) (hk i h1 h2);have far:∀ (q:Int),200≤q→∀ (j:Nat) (hj:j<O.f2.length),gF O (q*O.f1+j)=O.f2[j].map (eO (q*O.f0)):=fun q hq j hj=>by
    have e:bF O (q*O.f1+j)=O.f2[j].map (eO (q*O.f0)):=mF s q j hj;rw [← e];have hc:=s.hc;have h1:200*O.f1≤q*O.f1:=Int.mul_le_mul_of_nonneg_right hq (by omega);exact kI fun g hg e=>by have:=hix g hg;omega
  have hfl:∀ (l:List Sp) (n:Int),l≠[]→kJ (l.map (eO n))=kJ l+n∧kT (l.map (eO n))=kT l+n:=fun l n hn=>by
    induction l with
    | nil=>exact absurd rfl hn
    | cons x r ih =>
      refine ⟨rfl,?_⟩;cases r with
      | nil=>rfl
      | cons y r=>exact (ih (by simp)).2
  have hO:∀ (q q':Int) (j j':Nat) (hj:j<O.f2.length) (hj':j'<O.f2.length),200≤q→q≤201→200≤q'→q'≤201→q*O.f1+j<q'*O.f1+j'→O.f2[j]≠[]→O.f2[j']≠[]→kT O.f2[j]+q*O.f0<kJ O.f2[j']+q'*O.f0:=fun q q' j j' hj hj' a1 a2 b1 b2 hlt n1 n2=>by
    have hc:=s.hc;have u1:0≤q*O.f1:=Int.mul_nonneg (by omega) (by omega);have u2:q*O.f1≤201*O.f1:=Int.mul_le_mul_of_nonneg_right a2 (by omega);have u3:0≤q'*O.f1:=Int.mul_nonneg (by omega) (by omega);have u4:q'*O.f1≤201*O.f1:=Int.mul_le_mul_of_nonneg_right b2 (by omega);have e1:=far q a1 j hj;have e2:=far q' b1 j' hj';have:=h (q*O.f1+j) (q'*O.f1+j') hlt (lg (by omega)) (lg (by omega)) (by rw [e1];simpa using n1) (by rw [e2];simpa using n2);rw [e1,e2,(hfl _ _ n1).2,(hfl _ _ n2).1] at this;exact this
  have tf:TF O.f0 O.f2:=by
    refine ⟨List.pairwise_iff_getElem.2 fun i j hi hj hij n1 n2 => ?_,fun a ha b hb n1 n2 => ?_⟩
    · have:=hO 200 200 i j hi hj (by omega) (by omega) (by omega) (by omega) (by omega) n1 n2
      omega
    · obtain ⟨i,hi,rfl⟩:=List.mem_iff_getElem.1 ha
      obtain ⟨j,hj,rfl⟩:=List.mem_iff_getElem.1 hb;have hc:=s.hc;have:=hO 200 201 i j hi hj (by omega) (by omega) (by omega) (by omega) (by omega) n1 n2;omega
  have nu:∀ i k,-100≤i→i≤100→i<k→gF O k≠[]→gap O.f1 O.f2 O.f3 i k→k≤300:=fun i k h1 h2 hik hn hg=>by
    refine Classical.byContradiction fun hk2 => ?_;have hz:∀ g∈O.f3,g.f0≠k:=fun g hg e=>by have:=hix g hg;omega
    have hb:bF O k≠[]:=by rw [← kI hz];exact hn
    by_cases hc0:O.f2.length=0
    · exact hb (qF (List.length_eq_zero_iff.1 hc0) k)
    · have st:Stp (bF O) O.f2.length O.f0:=kE s (by omega)
      have e:=st (k - O.f2.length);rw [show k - (O.f2.length:Int)+(O.f2.length:Int)=k by omega] at e;have hn2:bF O (k - O.f2.length)≠[]:=fun e2=>hb (by rw [e,e2];rfl);have hz2:∀ g∈O.f3,g.f0≠k - O.f2.length:=fun g hg e=>by have:=hix g hg;omega
      rw [← kI hz2] at hn2;exact lF.2 hn2 (hg _ (by omega) (by omega))
  have nd:∀ i k,-100≤i→i≤100→k<i→gF O k≠[]→gap O.f1 O.f2 O.f3 k i → -300≤k:=fun i k h1 h2 hik hn hg=>by
    refine Classical.byContradiction fun hk2 => ?_;have hz:∀ g∈O.f3,g.f0≠k:=fun g hg e=>by have:=hix g hg;omega
    have hb:bF O k≠[]:=by rw [← kI hz];exact hn
    by_cases hc0:O.f2.length=0
    · exact hb (qF (List.length_eq_zero_iff.1 hc0) k)
    · have st:Stp (bF O) O.f2.length O.f0:=kE s (by omega)
      have e:=st k;have hn2:bF O (k+O.f2.length)≠[]:=fun e2=>hb (by rw [e2] at e;simpa using e.symm);have hz2:∀ g∈O.f3,g.f0≠k+O.f2.length:=fun g hg e=>by have:=hix g hg;omega
      rw [← kI hz2] at hn2;exact lF.2 hn2 (hg _ (by omega) (by omega))
  have ah:∀ i k,-1000≤i→i≤1000 → -1000≤k→k≤1000→i<k→jc (vF O i).1 (vF O k).1=true:=fun i k h1 h2 h3 h4 hik=>by
    rw [hv i h1 h2,hv k h3 h4];exact (qA _ _).2 fun n1 n2=>h i k hik (lg (by omega)) (lg (by omega)) n1 n2
  refine ⟨s,tf,fun g hg => ?_⟩;have hr:=hix g hg;refine ⟨?_,fun k hik rk nk gk => ?_,fun k hik rk nk gk => ?_,fun j k hj hk' rj rk nj nk gj gk => ?_⟩
  · show (vF O g.f0).2=0
    rw [hv _ (by omega) (by omega)]
  · have:=nu g.f0 k (by omega) (by omega) hik (lF.1 nk) gk
    refine ⟨?_,ah _ _ (by omega) (by omega) (by omega) (by omega) hik⟩;show (vF O k).2=0;rw [hv _ (by omega) (by omega)]
  · have:=nd g.f0 k (by omega) (by omega) hik (lF.1 nk) gk
    refine ⟨?_,ah _ _ (by omega) (by omega) (by omega) (by omega) hik⟩;show (vF O k).2=0;rw [hv _ (by omega) (by omega)]
  · have:=nd g.f0 j (by omega) (by omega) hj (lF.1 nj) gj
    have:=nu g.f0 k (by omega) (by omega) hk' (lF.1 nk) gk;exact ah j k (by omega) (by omega) (by omega) (by omega) (by omega)
end
end Go.Proofs.YtcomnjodjijcmaaGreat.Q
namespace Go.Proofs.YtcomnjodjijcmaaGreat.Q
set_option linter.unusedVariables false
set_option linter.unusedSimpArgs false
open Go.RowKit Go.Proofs.YtcomnjodjijcmaaGreatW.dz Go.Proofs.YtcomnjodjijcmaaGreatW.eD M R P
section
theorem qG {O h:Fm} (so:sfF O) (s:abI O h) (i:Int):gF h i=gF O i:=vM.ac7 so s i
theorem tX {O h:Fm} (so:sfF O) (s:abI O h) (i:Int):bF h i=bF O i:=by
  have:=s.c.ticks so i;rw [nN,nN] at this;exact this
theorem pF {O h:Fm} (so:sfF O) (s:abI O h):h.f2.length≤O.f2.length∧h.f3.length≤O.f3.length∧h.f0≤O.f0∧(h.f2=[]∨(h.f2.length ∣ O.f2.length∧O.f2.length≠0∧h.f0*((O.f2.length / h.f2.length:Nat):Int)=O.f0)):=by
  have ho:h.f3.length≤O.f3.length:=by rw [s.o];exact List.length_filter_le _ _
  by_cases hb:∀ l∈O.f2,l=[]
  · have e:=s.c.e hb
    have e2:h.f2=[]:=congrArg (fun x:Fm=>x.f2) e;have e0:h.f0=0:=congrArg (fun x:Fm=>x.f0) e;exact ⟨by rw [e2];simp,ho,by rw [e0];exact so.hp0,.inl e2⟩
  · obtain ⟨d,rp,_,e⟩:=s.c.n hb
    have e2:h.f2=O.f2.take d:=congrArg (fun x:Fm=>x.f2) e;have e0:h.f0=O.f0 / ((O.f2.length / d:Nat):Int):=congrArg (fun x:Fm=>x.f0) e;have hne:O.f2.length≠0:=fun e=>hb fun l hl=>by rw [List.length_eq_zero_iff.1 e] at hl;simp at hl
    have hd:d≤O.f2.length:=Nat.le_of_dvd (by omega) rp.d1;have el:h.f2.length=d:=by rw [e2,List.length_take];omega
    refine ⟨by omega,ho,?_,.inr ⟨by rw [el];exact rp.d1,hne,?_⟩⟩
    · rw [e0]
      exact Int.ediv_le_self _ so.hp0
    · rw [el,e0]
      exact Int.ediv_mul_cancel rp.d2
structure af6 (O:Fm):Prop where
  s:sfF O
  g:grF O
  lc:O.f2.length≤144
  lo:O.f3.length≤16
  hp:O.f0≤10000
  ix:∀ g∈O.f3,-100≤g.f0∧g.f0≤100
  tk:∀ i,-1000≤i→i≤1000→okL (gF O i)
  tb:∀ i,-1000≤i→i≤1000→okL (bF O i)
  ln:∀ i,(gF O i).length≤60
  lb:∀ i,(bF O i).length≤60
theorem af6.nf {O h:Fm} (H:af6 O) (s:abI O h):NF h:=by
  obtain ⟨l1,l2,l3,_⟩:=pF H.s s;have:=H.lc;have:=H.lo;have:=H.hp;exact ⟨s.can H.s,s.gr H.g,by omega,by omega,by omega,fun g hg=>H.ix g (by rw [s.o] at hg;exact (List.mem_filter.1 hg).1),fun i h1 h2=>by rw [qG H.s s];exact H.tk i h1 h2,fun i h1 h2=>by rw [tX H.s s];exact H.tb i h1 h2,fun i=>by rw [qG H.s s];exact H.ln i,fun i=>by rw [tX H.s s];exact H.lb i⟩
theorem adi {O:Fm} (w:mW O.f0 O.f1 O.f2 O.f3):af6 O:=by
  have:=w.lc;have:=w.lo;have p60:=w.p60;have p0:=w.ok.s.hp0;have sz:=w.sz;have sb:kS O.f2 []≤kS O.f2 O.f3:=by
    unfold kS;have:0≤(O.f3.map fun g=>(g.f1.length:Int)).sum:=qB (fun x hx=>by obtain ⟨g,_,rfl⟩:=List.mem_map.1 hx;omega);simp only [List.map_nil,List.sum_nil,Int.add_zero];exact Int.le_add_of_nonneg_right this
  refine ⟨w.ok.s,w.gr,by omega,by omega,by omega,fun g hg=>(w.ho g hg).1,fun i h1 h2 s hs => ?_,fun i h1 h2 s hs => ?_,fun i => ?_,fun i => ?_⟩
  · have:=w.th (i:=i) (by omega) s (by unfold thV;rw [w.abP (by omega)];exact hs)
    omega
  · obtain ⟨s0,hs0,rfl⟩:=List.mem_map.1 hs
    by_cases hc:O.f1=0
    · unfold fO at hs0
      rw [if_pos hc] at hs0;simp at hs0
    · have hm:=w.ok.s.jq i hc
      have hS:=w.ok.s.hcore _ hm;have b:=hS.between hs0;have q:=w.hc _ hm (fun e=>by rw [e] at hs0;simp at hs0);have hc0:=w.ok.s.hc;have d:=ag6 (i:=i) (c:=O.f1) (by omega) (by omega);have m1:i / O.f1*O.f0≤6000*O.f0:=Int.mul_le_mul_of_nonneg_right d.2 p0;have m2 : -6000*O.f0≤i / O.f1*O.f0:=Int.mul_le_mul_of_nonneg_right d.1 p0;simp only [eO];omega
  · have:=abA w.ok.s i
    unfold gF;omega
  · have:=abA w.ok.s.abd i
    have e:bF O i=gT O.f0 O.f1 O.f2 [] i:=(nN i).symm;rw [e];omega
structure Sml (A:Fm):Prop where
  nf:NF A
  c:A.f2.length≤12
  o:A.f3.length≤8
  p:A.f0≤60
theorem yM {O h:Fm} (w:mW O.f0 O.f1 O.f2 O.f3) (s:abI O h):Sml h:=by
  obtain ⟨l1,l2,l3,_⟩:=pF w.ok.s s;have:=w.lc;have:=w.lo;have:=w.p60;exact ⟨(adi w).nf s,by omega,by omega,by omega⟩
theorem afW (a b:Nat):Nat.lcm a b≤a*b:=Nat.div_le_self _ _
theorem abR {A B:Fm} (a:Sml A) (b:Sml B):nF A B≤144:=by
  have:=a.c;have:=b.c;unfold nF rn;split
  · omega
  · split
    · omega
    · exact Nat.le_trans (afW _ _) (Nat.mul_le_mul a.c b.c)
theorem ahc {A B:Fm} (a:Sml A) (b:Sml B):tF A B≤10000:=by
  have hn:=abR a b;have:=a.p;have:=b.p;unfold tF rt;split
  · omega
  · have hq:rn A.f2.length B.f2.length / A.f2.length≤144:=Nat.le_trans (Nat.div_le_self _ _) hn
    generalize rn A.f2.length B.f2.length / A.f2.length=q at hq;have h1:A.f0*(q:Int)≤60*(q:Int):=Int.mul_le_mul_of_nonneg_right a.p (by omega);omega
variable {D:List Sp→List Sp→List Sp} {A B:Fm}
theorem NF.rP (hD:vN D) (a:NF A) (b:NF B) (hf:mG A B) (i:Int):gF (fM D A B) i=D (gF A i) (gF B i) :=
  Q.rP hD a.cn.s b.cn.s hf (fun i hi=>by have:=lq a b i hi;rw [a.v (by omega) (by omega)]) (fun i hi=>by have:=lq a b i hi;rw [b.v (by omega) (by omega)]) i
theorem adH (a:NF A) (b:NF B):∀ g∈(fM D A B).f3,-100≤g.f0∧g.f0≤100:=fun g hg=>by
  obtain ⟨i,hi,rfl⟩:=List.mem_map.1 hg;exact lq a b i hi
theorem adI (hD:vN D) (a:NF A) (b:NF B) (hf:mG A B):∀ i,-1000≤i→i≤1000→okL (gF (fM D A B) i):=fun i h1 h2=>by
  rw [a.rP hD b hf];exact hD.one.ok abQ (a.tk i h1 h2) (b.tk i h1 h2)
theorem vK:(fM D A B).f2.length=nF A B:=by simp [fM]
theorem afX:(fM D A B).f3.length≤A.f3.length+B.f3.length:=by
  have:(fM D A B).f3.length=(iK A B).length:=by simp [fM]
  have:=mX A B;omega
theorem afY (hD:vN D) (a:NF A) (b:NF B) (hn:nF A B≤144) (hf:mG A B) {C:Fm} (hC:aeT C) (hp:∀ i,D (gF A i) (gF B i)=gF C i∨D (gF A i) (gF B i)=[]):grF (fM D A B) :=
  ahb (lC hD a b hn) (by rw [vK];exact hn) (adH a b) (adI hD a b hf) (adh hC fun i=>by rw [a.rP hD b hf];exact hp i)
theorem abS (hD:vN D) (a:Sml A) (b:Sml B) (hf:mG A B) (g:grF (fM D A B)):af6 (fM D A B):=by
  have hn:=abR a b;have:=afX (D:=D) (A:=A) (B:=B);have:=a.o;have:=b.o;exact ⟨lC hD a.nf b.nf hn,g,by rw [vK];exact hn,by omega,ahc a b,adH a.nf b.nf,adI hD a.nf b.nf hf,fun i h1 h2=>by
    rw [vJ hD a.nf.cn.s b.nf.cn.s hf];exact hD.one.ok abQ (a.nf.tb i h1 h2) (b.nf.tb i h1 h2),fun i=>by
    rw [a.nf.rP hD b.nf hf];exact hD.one.ok (P:=fun l=>l.length≤60) (by simp) (a.nf.ln i) (b.nf.ln i),fun i=>by
    rw [vJ hD a.nf.cn.s b.nf.cn.s hf];exact hD.one.ok (P:=fun l=>l.length≤60) (by simp) (a.nf.lb i) (b.nf.lb i)⟩
theorem NF.ord (a:NF A):aeT A:=afV a.gr.fok
theorem adj {O O' z l:Fm} (so:sfF O) (aa:sfF O') (s:abI O z) (s':abI O' l) (hl:O.f2.length=O'.f2.length) (h0:O.f0=O'.f0):mG z l∧nF z l≤O.f2.length:=by
  obtain ⟨a1,_,_,a4⟩:=pF so s;obtain ⟨b1,_,_,b4⟩:=pF aa s';rcases a4 with e | ⟨d1,n1,p1⟩
  · refine ⟨.inl e,?_⟩
    unfold nF rn;rw [if_pos (by rw [e];rfl)];omega
  rcases b4 with e | ⟨d2,n2,p2⟩
  · refine ⟨.inr (.inl e),?_⟩
    unfold nF rn;by_cases hz:z.f2.length=0
    · rw [if_pos hz,e]
      simp
    · rw [if_neg hz,if_pos (by rw [e];rfl)]
      exact a1
  by_cases hz:z.f2.length=0
  · refine ⟨.inl (List.length_eq_zero_iff.1 hz),?_⟩
    unfold nF rn;rw [if_pos hz];omega
  by_cases hz':l.f2.length=0
  · refine ⟨.inr (.inl (List.length_eq_zero_iff.1 hz')),?_⟩
    unfold nF rn;rw [if_neg hz,if_pos hz'];exact a1
  have en:nF z l=Nat.lcm z.f2.length l.f2.length:=by unfold nF rn;rw [if_neg hz,if_neg hz']
  have dm:nF z l ∣ O.f2.length:=by rw [en];exact Nat.lcm_dvd d1 (by rw [hl];exact d2)
  refine ⟨.inr (.inr ?_),Nat.le_of_dvd (by omega) dm⟩;obtain ⟨e,he⟩:=dm;obtain ⟨u,hu⟩:z.f2.length ∣ nF z l:=by rw [en];exact Nat.dvd_lcm_left _ _
  obtain ⟨w,hw⟩:l.f2.length ∣ nF z l:=by rw [en];exact Nat.dvd_lcm_right _ _
  have e0:e≠0:=fun h=>n1 (by rw [he,h,Nat.mul_zero]);have q1:O.f2.length / z.f2.length=u*e:=by rw [he,hu,Nat.mul_assoc,Nat.mul_div_cancel_left _ (by omega)]
  have q2:O'.f2.length / l.f2.length=w*e:=by rw [← hl,he,hw,Nat.mul_assoc,Nat.mul_div_cancel_left _ (by omega)]
  have t1:tF z l=z.f0*(u:Int):=by
    have:rn z.f2.length l.f2.length / z.f2.length=u:=by
      show nF z l / z.f2.length=u;rw [hu,Nat.mul_div_cancel_left _ (by omega)]
    unfold tF rt;rw [if_neg hz,this]
  have t2:tF l z=l.f0*(w:Int):=by
    have:rn l.f2.length z.f2.length / l.f2.length=w:=by
      show nF l z / l.f2.length=w;rw [oC,hw,Nat.mul_div_cancel_left _ (by omega)]
    unfold tF rt;rw [if_neg hz',this]
  rw [t1,t2];rw [q1] at p1;rw [q2] at p2;have key:z.f0*(u:Int)*(e:Int)=l.f0*(w:Int)*(e:Int):=by
    have h1:z.f0*(u:Int)*(e:Int)=O.f0:=by rw [← p1,Int.mul_assoc];simp
    have h2:l.f0*(w:Int)*(e:Int)=O'.f0:=by rw [← p2,Int.mul_assoc];simp
    rw [h1,h2,h0]
  exact Int.eq_of_mul_eq_mul_right (by omega) key
end
end Go.Proofs.YtcomnjodjijcmaaGreat.Q
namespace Go.Proofs.YtcomnjodjijcmaaGreat.Q
set_option linter.unusedVariables false
set_option linter.unusedSimpArgs false
open Go.RowKit Go.Proofs.YtcomnjodjijcmaaGreatW.dz Go.Proofs.YtcomnjodjijcmaaGreatW.eD M R P
theorem zR (k:Nat):@eF.f wtT (k+100)=some true:=by kernel_rfl
variable [Inhabited WT]
theorem l9:Ev (fun k=>eF.f k) true:=⟨100,fun k hk=>by
  obtain ⟨j,rfl⟩:=Nat.exists_eq_add_of_le' hk;rename_i i;rw [afb i wtT];exact zR j⟩
end Go.Proofs.YtcomnjodjijcmaaGreat.Q
namespace Go.Proofs.YtcomnjodjijcmaaGreat.U
set_option linter.unusedVariables false
set_option linter.unusedSimpArgs false
open Go.RowKit Go.Proofs.YtcomnjodjijcmaaGreatW.dz Go.Proofs.YtcomnjodjijcmaaGreatW.eD M R P Q
section
theorem adk {O h h':Fm} (so:sfF O) (s:abI O h) (s':abI O h'):h=h':=rO (s.can so) (s'.can so) fun i=>by rw [qG so s,qG so s']
theorem lu {D:List Sp→List Sp→List Sp} (hD:vN D) {A B:Fm} (a:NF A) (b:NF B) (hn:nF A B≤144) (hal:kF A B) {r:Fm × Int} (hr:OfS D A B r) {C:Fm} (hC:aeT C) (hp:∀ i,D (gF A i) (gF B i)=gF C i∨D (gF A i) (gF B i)=[]) :
    ∃ h,abI (fM D A B) h∧grF (fM D A B)∧r=(h,0)∧∀ i,gF h i=D (gF A i) (gF B i):=by
  have g:=afY hD a b hn hal.1 hC hp;obtain ⟨h,h1,h2⟩:=(hr.2 hal).2 g;exact ⟨h,h1,g,h2,fun i=>by rw [qG (lC hD a b hn) h1,a.rP hD b hal.1]⟩
theorem yN {D:List Sp→List Sp→List Sp} (hD:vN D) (hc:∀ {x y},al x y→D x y=D y x) {A B:Fm} (a:NF A) (b:NF B) (hn:nF A B≤144) {r r':Fm × Int} (hr:OfS D A B r) (hr':OfS D B A r'):r=r':=by
  by_cases hal:kF A B
  · have hO:fM D A B=fM D B A:=adg hc a.cn.s b.cn.s hal
    have hal':=rQ hal;by_cases hg:grF (fM D A B)
    · obtain ⟨h,h1,h2⟩:=(hr.2 hal).2 hg
      obtain ⟨h',h1',h2'⟩:=(hr'.2 hal').2 (hO ▸ hg);rw [← hO] at h1';rw [h2,h2',adk (lC hD a b hn) h1 h1']
    · rw [(hr.2 hal).1 hg,(hr'.2 hal').1 (hO ▸ hg)]
  · rw [hr.1 hal,hr'.1 (fun h=>hal (rQ h))]
theorem adJ {D:List Sp→List Sp→List Sp} (hD:vN D) {A B:Fm} (a:NF A) (b:NF B) (hn:nF A B≤144) {r:Fm × Int} (hr:OfS D A B r):sfF r.1:=by
  by_cases hal:kF A B
  · by_cases hg:grF (fM D A B)
    · obtain ⟨h,h1,h2⟩:=(hr.2 hal).2 hg
      rw [h2];exact (h1.can (lC hD a b hn)).s
    · rw [(hr.2 hal).1 hg];exact oD.s
  · rw [hr.1 hal];exact oD.s
theorem wU (A:Fm):kF A A:=⟨.inr (.inr rfl),fun i _ _ _=>rfl,fun i _ _ _=>rfl⟩
theorem afZ (x y:List Sp):al (DC x y) (DL x y):=fun h1 h2=>by
  by_cases h:y=[]
  · exact absurd (by unfold DC;rw [if_pos h]) h1
  · exact absurd (by unfold DL;rw [if_neg h]) h2
theorem ahM (x y:List Sp):DU (DC x y) (DL x y)=x:=by
  by_cases h:y=[]
  · unfold DU DC DL;rw [if_pos h,if_pos h,if_pos rfl]
  · unfold DU DC DL
    rw [if_neg h,if_neg h];by_cases hx:x=[]
    · rw [if_pos hx,hx]
    · rw [if_neg hx]
theorem ahN (x y:List Sp):DC (DC x y) (DL x y)=[]:=by
  by_cases h:y=[]
  · unfold DC DL;rw [if_pos h,if_pos h];split <;> rfl
  · unfold DC DL;rw [if_neg h,if_neg h,if_pos rfl]
theorem adK (x:List Sp):DU x x=x:=by unfold DU;split <;> rfl
theorem adL (x:List Sp):DC x x=x:=by unfold DC;split;exact (by assumption:x=[]).symm;rfl
theorem adM (x:List Sp):DL x x=[]:=by unfold DL;split;exact (by assumption:x=[]);rfl
end
variable [Inhabited WT]
theorem mg {z:Fm} (h:cnF z):Ev (fun k=>dK.f k z.f0 z.f1 z.f2 z.f3) z:=by
  obtain ⟨r,r1,r2⟩:=j5 h.s;have e:=Can.fix h r2;rw [e] at r1;exact r1
theorem alf {x:Fm} (h:sfF x):Ev (fun k=>cZ.f k x.f0 x.f1 x.f2 x.f3 x.f0 x.f1 x.f2 x.f3) true:=tT h
theorem SetsLaws (p c:Int) (core:List (List Sp)) (odd:List Gn) (ff:aa9 p c core odd) (p' c':Int) (fu:List (List Sp)) (kr:List Gn) (aj:aa9 p' c' fu kr):∃ k,eZ.f k p c core odd p' c' fu kr=some true:=by
  refine Ev.rounds ?_;unfold eZ.f;obtain ⟨na,ah,ak⟩:=abE (p:=p) (c:=c) ff.mf;obtain ⟨nb,ai,am⟩:=abE (p:=p') (c:=c') aj.mf;cases na with
  | false=>exact Ev.bind ah (Ev.yes rfl (Ev.bind l9 (Ev.now _)))
  | true =>
  cases nb with
  | false=>exact Ev.bind ah (Ev.no (by simp) (Ev.bind ai (Ev.yes rfl (Ev.bind l9 (Ev.now _)))))
  | true =>
  have wa:=ak rfl;have wb:=am rfl;obtain ⟨A,cA,sA⟩:=j5 wa.ok.s;obtain ⟨B,cB,sB⟩:=j5 wb.ok.s;have a:Sml A:=yM (O:=⟨p,c,core,odd⟩) wa sA;have b:Sml B:=yM (O:=⟨p',c',fu,kr⟩) wb sB;have ab:=abR a a;have aa:=abR a b;have af:=abR b a;obtain ⟨r1,e1,s1⟩:=pE cA cA (a.nf.of a.nf ab) (jS qQ a.nf a.nf ab);obtain ⟨r2,e2,s2⟩:=yI cA cA (a.nf.of a.nf ab) (jS nQ a.nf a.nf ab);obtain ⟨r3,e3,s3⟩:=abJ cA cA (a.nf.of a.nf ab) (jS vI a.nf a.nf ab);obtain ⟨h1,k1,_,rfl,g1⟩:=lu qQ a.nf a.nf ab (wU A) s1 a.nf.ord (fun i=>.inl (adK _));obtain ⟨h2,k2,_,rfl,g2⟩:=lu nQ a.nf a.nf ab (wU A) s2 a.nf.ord (fun i=>.inl (adL _));obtain ⟨h3,k3,_,rfl,g3⟩:=lu vI a.nf a.nf ab (wU A) s3 a.nf.ord (fun i=>.inr (adM _));obtain rfl:h1=A:=rO (k1.can (lC qQ a.nf a.nf ab)) a.nf.cn (fun i=>by rw [g1,adK]);obtain rfl:h2=h1:=rO (k2.can (lC nQ a.nf a.nf ab)) a.nf.cn (fun i=>by rw [g2,adL]);obtain rfl:h3=noF:=rO (k3.can (lC vI a.nf a.nf ab)) oD (fun i=>by rw [g3,adM,adF]);refine Ev.bind ah (Ev.no (by simp) (Ev.bind ai (Ev.no (by simp) (Ev.bind cA (Ev.bind e1 (Ev.bind e2 (Ev.bind e3 ?_)))))));refine Ev.no (by simp) (Ev.no (by simp) (Ev.no (by simp) (Ev.bind (alf a.nf.cn.s) (Ev.no (by simp) (Ev.bind (alf a.nf.cn.s) (Ev.no (by simp) (Ev.bind (alf oD.s) (Ev.no (by simp) ?_))))))));obtain ⟨x,e4,s4⟩:=pE cA cB (a.nf.of b.nf aa) (jS qQ a.nf b.nf aa);obtain ⟨y,e5,s5⟩:=pE cB cA (b.nf.of a.nf af) (jS qQ b.nf a.nf af);obtain ⟨z,e6,s6⟩:=yI cA cB (a.nf.of b.nf aa) (jS nQ a.nf b.nf aa)
  obtain ⟨w,e7,s7⟩:=yI cB cA (b.nf.of a.nf af) (jS nQ b.nf a.nf af);obtain ⟨l,e8,s8⟩:=abJ cA cB (a.nf.of b.nf aa) (jS vI a.nf b.nf aa);obtain rfl:x=y:=yN qQ aeP a.nf b.nf aa s4 s5;obtain rfl:z=w:=yN nQ aeQ a.nf b.nf aa s6 s7;have fx:=adJ qQ a.nf b.nf aa s4;have fz:=adJ nQ a.nf b.nf aa s6;refine Ev.bind e4 (Ev.bind e5 (Ev.bind e6 (Ev.bind e7 (Ev.bind e8 ?_))));by_cases hal:kF h2 B
  case neg =>
    obtain rfl:=s4.1 hal;obtain rfl:=s6.1 hal;obtain rfl:=s8.1 hal;refine Ev.no (by simp) (Ev.no (by simp) (Ev.no (by simp) (Ev.bind (alf fx) (Ev.no (by simp) (Ev.bind (alf fz) (Ev.no (by simp) ?_))))));exact Ev.yes (by simp) (Ev.no (by simp) (Ev.yes (by simp) (Ev.yes (by simp) (Ev.bind l9 (Ev.now _)))))
  obtain ⟨z,kz,gz,rfl,vz⟩:=lu nQ a.nf b.nf aa hal s6 a.nf.ord (fun i=>by unfold DC;split;exact .inr rfl;exact .inl rfl);obtain ⟨l,kl,gl,rfl,vl⟩:=lu vI a.nf b.nf aa hal s8 a.nf.ord (fun i=>by unfold DL;split;exact .inl rfl;exact .inr rfl);have Oz:=lC nQ a.nf b.nf aa;have Ol:=lC vI a.nf b.nf aa;have nz:NF z:=(abS nQ a b hal.1 gz).nf kz;have nl:NF l:=(abS vI a b hal.1 gl).nf kl;obtain ⟨tf,tn⟩:=adj Oz Ol kz kl (by rw [vK,vK]) rfl;have ac:nF z l≤144:=by rw [vK] at tn;omega
  have hzl:kF z l:=⟨tf,fun i hi=>by
    rw [tX Oz kz,tX Ol kl,vJ nQ a.nf.cn.s b.nf.cn.s hal.1,vJ vI a.nf.cn.s b.nf.cn.s hal.1];exact afZ _ _,fun i hi=>by
    have:=lq nz nl i hi;rw [nz.v (by omega) (by omega),nl.v (by omega) (by omega)];show al (gF z i) (gF l i);rw [vz,vl];exact afZ _ _⟩
  obtain ⟨r9,e9,s9⟩:=pE (mg nz.cn) (mg nl.cn) (nz.of nl ac) (jS qQ nz nl ac);obtain ⟨ao,e10,s10⟩:=yI (mg nz.cn) (mg nl.cn) (nz.of nl ac) (jS nQ nz nl ac);obtain ⟨h9,k9,_,rfl,g9⟩:=lu qQ nz nl ac hzl s9 a.nf.ord (fun i=>.inl (by rw [vz,vl,ahM]));obtain ⟨h10,k10,_,rfl,g10⟩:=lu nQ nz nl ac hzl s10 a.nf.ord (fun i=>.inr (by rw [vz,vl,ahN]));obtain rfl:h9=h2:=rO (k9.can (lC qQ nz nl ac)) a.nf.cn (fun i=>by rw [g9,vz,vl,ahM]);obtain rfl:h10=noF:=rO (k10.can (lC nQ nz nl ac)) oD (fun i=>by rw [g10,vz,vl,ahN,adF]);refine Ev.no (by simp) (Ev.no (by simp) (Ev.no (by simp) (Ev.bind (alf fx) (Ev.no (by simp) (Ev.bind (alf fz) (Ev.no (by simp) ?_))))));exact Ev.no (by simp) (Ev.no (by simp) (Ev.bind e9 (Ev.bind e10 (Ev.yes (by simp) (Ev.yes (by simp) (Ev.bind (alf a.nf.cn.s) (Ev.yes rfl (Ev.bind (alf oD.s) (Ev.yes rfl (Ev.bind l9 (Ev.now _)))))))))))
end Go.Proofs.YtcomnjodjijcmaaGreat.U
namespace Go.Proofs.YtcomnjodjijcmaaGreat.setsLaws
open Go.ChangeShapes Go.WideShapes Go.ChangeAt Go.RowKit
open Go.ChangeMaps (open_string shut_string)
set_option linter.unusedVariables false
theorem own:ownKnob Tryz.prog.godebug=none:=by kernel_rfl
theorem laidOut:laidOutB Tryz.prog=true:=by kernel_rfl
set_option maxRecDepth 100000 in
theorem lifted (os:Os) (started:os.Started) (H:Type) (enc:TypeId × Value→H) :
    ReturnsInHanded {} Tryz.checked os 3 .any (Rows.setsLawsSpec.pre6 enc Tryz.prog Tryz.f3 Rows.setsLawsRow.domain false) (Rows.setsLawsSpec.post enc Tryz.prog Tryz.f3 false true false false):=by
  refine returnsInHanded_of_change_sized (C:=Tryz.checked) own started (by kernel_rfl) Tryz.func3
    (ChangeSpec.witness6 (enc:=enc) (C:=Tryz.checked) false ⟨#[],#[.agg #[.int .i64 0,.int .i64 0,.slice none 0 0,.slice none 0 0],.agg #[.int .i64 0,.int .i64 0,.slice none 0 0,.slice none 0 0]],[]⟩ 8 (by kernel_rfl) (by kernel_rfl) (by kernel_rfl) (by kernel_rfl)) ?_
  intro W base args ds gs before hval0 hW hcnd hsz0 _;have hval:∀ (j:Nat) t v,Tryz.f3.params[j]? = some t→args[j]? = some v→Value.okWide Tryz.prog W .any base t v:=hval0;have hW':=hW;obtain ⟨p,q,ao,hV,rfl,hfz,hnd⟩:=hW;have hA:DataW.TrodAll enc Tryz.prog W 0 (fun _=>true) true Tryz.f3.params.toList args.toList ds p:=ao;rw [Tryz.params3] at hA hval;obtain ⟨v0,aF,d0,ds0,p0,q0,hargs,rfl,rfl,h0,r0⟩:=trodAll_cons hA;obtain ⟨v1,vs1,d1,ds1,p1,q1,rfl,rfl,rfl,h1,r1⟩:=trodAll_cons r0;obtain ⟨rfl,rfl,rfl⟩:=trodAll_nil r1;obtain rfl:args=#[v0,v1]:=by cases args;simp_all
  obtain ⟨rfl,rfl⟩:=trodVars_none hV;have k0:=h0;have aq:∀ x∈p0,x.block<W.heap.size:=by obtain ⟨m,hm⟩:=k0;exact DataW.trod_lt m _ _ _ hm
  obtain ⟨aa,ab,aG,aH,ac,aI,aJ,af,rfl,au,aw,ax,ay,az⟩:=P.vC (hval 0 25 v0 rfl rfl) h0;have k1:=h1;have aA:∀ x∈p1,x.block<W.heap.size:=by obtain ⟨m,hm⟩:=k1;exact DataW.trod_lt m _ _ _ hm
  obtain ⟨ah,ai,aK,aL,aj,aM,aN,ak,rfl,aB,fx1,aC,aD,aE⟩:=P.vC (hval 1 25 v1 rfl rfl) h1;clear ao hval0 hsz0;obtain ⟨kk,hP⟩:=U.SetsLaws aa ab ac af az ah ai aj ak aE;refine (M.aa6 (R.eZ.ok kk) (W:=W) (a:=((⟨aa,ab,ac,af⟩:P.S25),(⟨ah,ai,aj,ak⟩:P.S25),())) (vs:=[.agg #[.int .i64 aa,.int .i64 ab,.slice _ ac.length _,.slice _ af.length _],.agg #[.int .i64 ah,.int .i64 ai,.slice _ aj.length _,.slice _ ak.length _]]) ⟨⟨_,M.fm0 _ _ au aw ax ay,rfl⟩,⟨⟨_,M.fm0 _ _ aB fx1 aC aD,rfl⟩,trivial⟩⟩ hP).mono fun e W' ⟨he,ap⟩ => ?_;have am:=ap;subst he;exact ⟨_,rfl,_,_,_,[],_,[],hW',trodAll_mk1 (shut_bool Tryz.underlying4 _),(trodAll_cons_mk (Below.trod laidOut (by kernel_rfl) (of_decide_eq_true (by kernel_rfl)) k0 am aq) (trodAll_cons_mk (Below.trod laidOut (by kernel_rfl) (of_decide_eq_true (by kernel_rfl)) k1 am aA) trodAll_mk0)),rfl,am.frame _,fun h=>by cases h⟩
theorem over:Rows.setsLawsRow.holds Tryz.pinned (OpenSpec.ofChange Rows.setsLawsSpec) :=
  OpenClaim.holds_of_wide 3 Tryz.f3 rfl rfl rfl rfl rfl rfl rfl ⟨rfl,rfl,rfl,rfl,rfl⟩ rfl rfl rfl rfl rfl (by kernel_rfl) Tryz.func3 (by kernel_rfl)
    (of_decide_eq_true (by kernel_rfl)) (by unfold Func.isWrapper;first | (rw [if_pos (by decide +kernel)];kernel_rfl) | (rw [if_neg (by decide +kernel)];exact ⟨rfl,rfl⟩))
    (fun os started H enc _=>lifted os started H enc)
theorem proved:Rows.SetsLawsSaid:=over
#print axioms proved
end Go.Proofs.YtcomnjodjijcmaaGreat.setsLaws
namespace Go.Proofs.YtcomnjodjijcmaaGreat
theorem setsLaws_holds:Rows.SetsLawsSaid:=setsLaws.proved
end Go.Proofs.YtcomnjodjijcmaaGreat

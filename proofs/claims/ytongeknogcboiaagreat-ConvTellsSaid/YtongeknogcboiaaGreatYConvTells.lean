/- The law ConvTells: it holds at every input that its row reads. No condition of its own. -/
import Derived.Test.YtongeknogcboiaaGreatYT22
import Derived.Test.YtongeknogcboiaaGreatRows
import Derived.Test.YtongeknogcboiaaGreatYT18
import Derived.WalkKit
import Derived.ProofKit
import Derived.OpenShut
import Derived.ShutString
import Derived.ChangeOld
import Derived.Below
import Derived.SizedLaws
namespace Go.Proofs.YtongeknogcboiaaGreat.Q
set_option linter.unusedVariables false
set_option linter.unusedSimpArgs false
open Go.RowKit Go.Proofs.YtongeknogcboiaaGreatW.gq Go.Proofs.YtongeknogcboiaaGreatW.iR M R P
section
variable {p c:Int} {core:List (List Sp)} {odd:List Gn}
def okC (l:List Sp):Prop:=l≠[] → -200≤lN l∧lY l≤200
def okO (g:Gn):Prop:=(-100≤g.f0∧g.f0≤100)∧(g.f1≠[] → -3000≤lN g.f1∧lY g.f1≤3000)
structure qc (p c:Int) (core:List (List Sp)) (odd:List Gn):Prop where
  ok:FOK p c core odd
  gr:GR p c core odd
  lc:core.length≤12
  lo:odd.length≤8
  sz:qW core odd≤60
  p60:p≤60
  hc:∀ l∈core,okC l
  ho:∀ g∈odd,okO g
theorem qc.gl (w:qc p c core odd) (m:Int):(gT p c core odd m).length≤100000:=by have:=aeO w.ok.s m;have:=w.sz;omega
theorem qc.tl (w:qc p c core odd) (m:Int):(thV p c core odd m).length≤100000:=by have:=af2 w.ok.s m;have:=w.sz;omega
theorem aju {i c:Int} (hi : -6000≤i∧i≤6000) (hc:0<c) : -6000≤i / c∧i / c≤6000:=by
  constructor
  · refine (Int.le_ediv_iff_mul_le hc).2 ?_
    have:(-6000:Int)*c ≤ -6000*1:=Int.mul_le_mul_of_nonpos_left (by omega) (by omega);omega
  · rcases Int.lt_or_le i 0 with h | h
    · have:=Int.ediv_neg_of_neg_of_pos h hc;omega
    · have:=Int.ediv_le_self c h;omega
theorem qc.bd (w:qc p c core odd) {i:Int} (hi : -6000≤i∧i≤6000) (hn:fs c core odd i≠[]) : -400000≤gLo p c core odd i∧gHi p c core odd i≤400000:=by
  unfold gLo gHi;cases ho:jU odd i with
  | some l =>
    obtain ⟨g,g1,g2,g3⟩:=lT ho;have hf:fs c core odd i=g.f1:=by unfold fs;rw [ho];exact g3.symm
    have hb:fb p c odd i=0:=by unfold fb;rw [ho]
    rw [hf] at hn;have:=(w.ho g g1).2 hn;rw [hf,hb];omega
  | none =>
    have hf:fs c core odd i=iZ c core i:=by unfold fs;rw [ho]
    have hb:fb p c odd i=i / c*p:=by unfold fb;rw [ho]
    rw [hf] at hn;obtain ⟨c0,p0,j,hj,j1,j2⟩:=nD w.ok.s hn;rw [hf,hb,j2];rw [j2] at hn;have:=w.hc _ (List.getElem_mem hj) hn;have q:=aju hi c0;have p6:=w.p60;have h1:i / c*p≤6000*p:=Int.mul_le_mul_of_nonneg_right q.2 (by omega);have h2 : -6000*p≤i / c*p:=Int.mul_le_mul_of_nonneg_right q.1 (by omega);omega
theorem qc.ex (w:qc p c core odd) {i:Int} (hi : -6000≤i∧i≤6000) (hn:fs c core odd i≠[]):Ex p c core odd i:=by
  have:=w.bd hi hn;exact ⟨by unfold inR;omega,hn,by omega,by omega⟩
theorem qc.th (w:qc p c core odd) {i:Int} (hi : -6000≤i∧i≤6000):∀ s∈thV p c core odd i,-1000000≤s.f0∧s.f1≤1000000:=by
  intro s hs;rcases lq w.ok.s i with ⟨e,e1,e2⟩ | ⟨e,e1⟩
  · have ev:thV p c core odd i=gT p c core odd i:=by unfold thV;rw [e1]
    rw [ev] at hs;have hS:=w.ok.s.ng e;have b:=w.bd hi e.n;obtain ⟨g1,g2,g3⟩:=mO (p:=p) e.n;have t:=SL.ticks hS hs;have h1:=hS.mY (x:=s.f0) (aaE.2 ⟨s,hs,Int.le_refl _,t.2.1⟩);have h2:=hS.mY (x:=s.f1) (aaE.2 ⟨s,hs,t.2.1,Int.le_refl _⟩);omega
  · have ev:thV p c core odd i=[]:=e1
    rw [ev] at hs;cases hs
theorem qc.up (w:qc p c core odd) {i:Int} (hi : -60≤i∧i≤60) {r s:Int × Bool} (a:Nrs c core odd 1 (i+1) r) (b:NxU p c core odd i s):s=r:=by
  obtain ⟨r1,r2⟩:=r;obtain ⟨s1,s2⟩:=s;have near:r2=true→Ex p c core odd r1:=fun e=>by
    obtain ⟨x1,x2,x3,_⟩:=a.y e;refine w.ex ?_ x3;rcases a.w e with ⟨g,g1,g2⟩ | ⟨q,q1,q2⟩
    · have:=(w.ho g g1).1
      simp only at g2;omega
    · have hc:=w.ok.s.hc
      have lc:=w.lc;have lo:=w.lo;have:c*((odd.length:Int)+1)≤12*9:=Int.mul_le_mul (by omega) (by omega) (by omega) (by omega);simp only at q2;omega
  cases r2 with
  | true =>
    obtain ⟨x1,x2,x3,x4⟩:=a.y rfl;have ex:=near rfl;simp only at x1 x2 x3 x4;cases s2 with
    | true =>
      obtain ⟨e1,e2,e3⟩:=b.1 rfl;have g1:=e3 r1 ex (by omega);simp only at e1 e2 g1;rcases Int.lt_or_eq_of_le g1 with g | g
      · exact absurd (x4 s1 (by omega) (by omega)) e1.n
      · rw [g]
    | false =>
      have:=(b.2 rfl).2 r1 ex;omega
  | false =>
    obtain ⟨x1,x2⟩:=a.n rfl;simp only at x1;cases s2 with
    | true =>
      obtain ⟨e1,e2,e3⟩:=b.1 rfl;simp only at e1 e2;exact absurd (x2 s1 (by omega) e1.r) e1.n
    | false =>
      have:=(b.2 rfl).1;simp only at this;rw [this,x1]
theorem qc.dn (w:qc p c core odd) {i:Int} (hi : -60≤i∧i≤60) {r s:Int × Bool} (a:Nrs c core odd (-1) (i - 1) r) (b:NxD p c core odd i s):s=r:=by
  obtain ⟨r1,r2⟩:=r;obtain ⟨s1,s2⟩:=s;have near:r2=true→Ex p c core odd r1:=fun e=>by
    obtain ⟨x1,x2,x3,_⟩:=a.y e;refine w.ex ?_ x3;rcases a.w e with ⟨g,g1,g2⟩ | ⟨q,q1,q2⟩
    · have:=(w.ho g g1).1
      simp only at g2;omega
    · have hc:=w.ok.s.hc
      have lc:=w.lc;have lo:=w.lo;have:c*((odd.length:Int)+1)≤12*9:=Int.mul_le_mul (by omega) (by omega) (by omega) (by omega);simp only at q2;omega
  cases r2 with
  | true =>
    obtain ⟨x1,x2,x3,x4⟩:=a.y rfl;have ex:=near rfl;simp only at x1 x2 x3 x4;cases s2 with
    | true =>
      obtain ⟨e1,e2,e3⟩:=b.1 rfl;have g1:=e3 r1 ex (by omega);simp only at e1 e2 g1;rcases Int.lt_or_eq_of_le g1 with g | g
      · exact absurd (x4 s1 (by omega) (by omega)) e1.n
      · rw [g]
    | false =>
      have:=(b.2 rfl).2 r1 ex;omega
  | false =>
    obtain ⟨x1,x2⟩:=a.n rfl;simp only at x1;cases s2 with
    | true =>
      obtain ⟨e1,e2,e3⟩:=b.1 rfl;simp only at e1 e2;exact absurd (x2 s1 (by omega) e1.r) e1.n
    | false =>
      have:=(b.2 rfl).1;simp only at this;rw [this,x1]
theorem wI {l:List Sp} (h:l≠[]):qD l=(lN l,lY l,true):=by rw [vX,if_neg h]
theorem aeT (k:Nat) (l:List Sp) (h:l.length≤8796093022208):jF.f k l=some l:=by
  unfold jF.f;have c1:(0:Int)≤(l.length:Int):=by omega
  have c2:(l.length:Int)≤8796093022208:=by omega
  rw [if_pos c1,if_pos c2];simp
end
variable [Inhabited WT]
variable {p c:Int} {core:List (List Sp)} {odd:List Gn}
theorem aep (h:∀ l∈core,l.length≤4611686018427387904) (hl:core.length≤6000):∀ (d n:Nat),core.length - n=d→n≤core.length→(∀ j (hj:j<core.length),j<n→okC core[j]) →
    ((∀ l∈core,okC l)∧∀ (Y:Nat→Option Bool) (v:Bool),Ev Y v→Ev (fun k=>fQ.l0 (some false) (Y k) core (core.length:Int) k (n:Int)) v)∨∀ (Y:Nat→Option Bool),Ev (fun k=>fQ.l0 (some false) (Y k) core (core.length:Int) k (n:Int)) false:=by
  intro d;induction d with
  | zero =>
    intro n hd hn hi;refine Or.inl ⟨fun l hl => ?_,fun Y v hY => ?_⟩
    · obtain ⟨j,hj,rfl⟩:=List.getElem_of_mem hl
      exact hi j hj (by omega)
    · have c1:¬ (n:Int)<(core.length:Int):=by omega
      refine Ev.step (fun k=>rfl) ?_;simp only [fQ.l0,fQ.l0T,decide_eq_true_eq,c1,if_false];exact Ev.shift hY
  | succ d ih =>
    intro n hd hn hi;have hlt:n<core.length:=by omega
    have c1:(n:Int)<(core.length:Int):=by omega
    have c2:(0:Int)≤(n:Int):=by omega
    have hrd:=rdL core n hlt;have hw:wq ((n:Int)+1)=((n+1:Nat):Int):=by rw [jf (by omega) (by omega)];simp
    have hh:∀ k,iV.f k core[n]=_:=fun k=>aaA k core[n] (h _ (List.getElem_mem hlt));by_cases q:okC core[n]
    · have hi2:∀ j (hj:j<core.length),j<n+1→okC core[j]:=fun j hj hjn=>by
        rcases Nat.lt_or_ge j n with g | g
        · exact hi j hj g
        · have:j=n:=by omega
          subst this;exact q
      have go:∀ (Y:Nat→Option Bool) (v:Bool),Ev (fun k=>fQ.l0 (some false) (Y (k+1)) core (core.length:Int) k ((n+1:Nat):Int)) v→Ev (fun k=>fQ.l0 (some false) (Y k) core (core.length:Int) k (n:Int)) v:=fun Y v hY=>by
        refine Ev.step (fun k=>rfl) ?_;simp only [fQ.l0,fQ.l0T,decide_eq_true_eq,c1,c2,if_true,hrd,hw,hh,Option.bind_some];by_cases z:core[n]=[]
        · exact Ev.no (by simp [z,qD]) hY
        · have:=q z
          have e:=(wI z);simp only [e];exact Ev.yes trivial (Ev.no (by omega) (Ev.no (by omega) hY))
      rcases ih (n+1) (by omega) (by omega) hi2 with ⟨a,b⟩ | b
      · exact Or.inl ⟨a,fun Y v hY=>go Y v (b (fun k=>Y (k+1)) v (Ev.shift hY))⟩
      · exact Or.inr fun Y=>go Y false (b (fun k=>Y (k+1)))
    · refine Or.inr fun Y => ?_
      have z:core[n]≠[]:=fun e=>q (fun f=>absurd e f);refine Ev.step (fun k=>rfl) ?_;simp only [fQ.l0,fQ.l0T,decide_eq_true_eq,c1,c2,if_true,hrd,hw,hh,Option.bind_some,wI z];by_cases g:lN core[n] < -200
      · exact Ev.yes g (Ev.now _)
      · exact Ev.no g (Ev.yes (by
          refine Classical.byContradiction fun g2=>q (fun _=>by omega)) (Ev.now _))
theorem aer (h:∀ g∈odd,g.f1.length≤4611686018427387904) (hl:odd.length≤6000):∀ (d n:Nat),odd.length - n=d→n≤odd.length→(∀ j (hj:j<odd.length),j<n→okO odd[j]) →
    ∃ b,Ev (fun k=>fQ.l1 (some false) (some true) odd (odd.length:Int) k (n:Int)) b∧(b=true→∀ g∈odd,okO g):=by
  intro d;induction d with
  | zero =>
    intro n hd hn hi;refine ⟨true,?_,fun _ g hg => ?_⟩
    · have c1:¬ (n:Int)<(odd.length:Int):=by omega
      refine Ev.step (fun k=>rfl) ?_;simp only [fQ.l1,fQ.l1T,decide_eq_true_eq,c1,if_false];exact Ev.now _
    · obtain ⟨j,hj,rfl⟩:=List.getElem_of_mem hg
      exact hi j hj (by omega)
  | succ d ih =>
    intro n hd hn hi;have hlt:n<odd.length:=by omega
    have c1:(n:Int)<(odd.length:Int):=by omega
    have c2:(0:Int)≤(n:Int):=by omega
    have hrd:=rdG odd n hlt;have hw:wq ((n:Int)+1)=((n+1:Nat):Int):=by rw [jf (by omega) (by omega)];simp
    have hh:∀ k,iV.f k odd[n].f1=_:=fun k=>aaA k odd[n].f1 (h _ (List.getElem_mem hlt));by_cases q:okO odd[n]
    · have hi2:∀ j (hj:j<odd.length),j<n+1→okO odd[j]:=fun j hj hjn=>by
        rcases Nat.lt_or_ge j n with g | g
        · exact hi j hj g
        · have:j=n:=by omega
          subst this;exact q
      obtain ⟨b,b1,b2⟩:=ih (n+1) (by omega) (by omega) hi2;refine ⟨b,Ev.step (fun k=>rfl) ?_,b2⟩;simp only [fQ.l1,fQ.l1T,decide_eq_true_eq,c1,c2,if_true,hrd,hw,hh,Option.bind_some];have q1:=q.1;refine Ev.no (by omega) (Ev.no (by omega) ?_);by_cases z:odd[n].f1=[]
      · exact Ev.no (by simp [z,qD]) b1
      · have:=q.2 z
        simp only [wI z];exact Ev.yes trivial (Ev.no (by omega) (Ev.no (by omega) b1))
    · refine ⟨false,Ev.step (fun k=>rfl) ?_,fun e=>by cases e⟩
      simp only [fQ.l1,fQ.l1T,decide_eq_true_eq,c1,c2,if_true,hrd,hw,hh,Option.bind_some];by_cases g1:odd[n].f0 < -100
      · exact Ev.yes g1 (Ev.now _)
      refine Ev.no g1 ?_;by_cases g2:odd[n].f0>100
      · exact Ev.yes g2 (Ev.now _)
      refine Ev.no g2 ?_;have z:odd[n].f1≠[]:=fun e=>q ⟨by omega,fun f=>absurd e f⟩;simp only [wI z];refine Ev.yes trivial ?_;by_cases g:lN odd[n].f1 < -3000
      · exact Ev.yes g (Ev.now _)
      · exact Ev.no g (Ev.yes (by
          refine Classical.byContradiction fun g2=>q ⟨by omega,fun _=>by omega⟩) (Ev.now _))
theorem ac8 (m:MF core odd):∃ b,Ev (fun k=>fQ.f k p c core odd) b∧(b=true→qc p c core odd):=by
  unfold fQ.f;obtain ⟨b,b1,b2⟩:=abk (p:=p) (c:=c) m;cases b with
  | false=>exact ⟨false,Ev.bind b1 (Ev.yes rfl (Ev.now _)),fun e=>by cases e⟩
  | true =>
    obtain ⟨f,g,lc,lo,sz⟩:=b2 rfl;by_cases p6:p>60
    · exact ⟨false,Ev.bind b1 (Ev.no (by simp) (Ev.yes (by simpa using p6) (Ev.now _))),fun e=>by cases e⟩
    have hC:∀ l∈core,l.length≤4611686018427387904:=fun l hl=>by have:=(f.s.hcore l hl).vV;omega
    have hO:∀ g∈odd,g.f1.length≤4611686018427387904:=fun g hg=>by have:=(f.s.hodd g hg).vV;omega
    obtain ⟨b,e1,e2⟩:=aer hO (by omega) odd.length 0 (by omega) (by omega) (fun j _ h=>by omega);rcases aep hC (by omega) core.length 0 (by omega) (by omega) (fun j _ h=>by omega) with ⟨a,q⟩ | q
    · exact ⟨b,Ev.bind b1 (Ev.no (by simp) (Ev.no (by simpa using p6) (q _ _ e1))),fun e=>⟨f,g,lc,lo,sz,by omega,a,e2 e⟩⟩
    · exact ⟨false,Ev.bind b1 (Ev.no (by simp) (Ev.no (by simpa using p6) (q _))),fun e=>by cases e⟩
theorem tT (h:SF p c core odd):Ev (fun k=>fO.f k p c core odd) (⟨p,c,core,odd⟩:P.S25):=by
  have lc:=h.hl;have lo:=h.hlo;have k1:∀ (d n:Nat),odd.length - n=d→n≤odd.length→Ev (fun k=>fO.l1 (fun y8=>some (⟨p,c,core,y8⟩:P.S25)) odd (odd.length:Int) k (n:Int) (odd.take n)) ⟨p,c,core,odd⟩:=by
    intro d;induction d with
    | zero =>
      intro n hd hn;rw [List.take_of_length_le (by omega)];have c1:¬ (n:Int)<(odd.length:Int):=by omega
      refine Ev.step (fun k=>rfl) ?_;simp only [fO.l1,fO.l1T,decide_eq_true_eq,c1,if_false];exact Ev.now _
    | succ d ih =>
      intro n hd hn;have hlt:n<odd.length:=by omega
      have hb:=SL.len (lo:=0) (h.hodd _ (List.getElem_mem hlt));have ha:∀ k,jF.f k odd[n].f1=some odd[n].f1:=fun k=>aeT k _ (by omega);have htk:odd.take n++[odd[n]]=odd.take (n+1):=(List.take_succ_eq_append_getElem hlt).symm;have hl:(odd.take n).length+1≤4398046511104:=by simp only [List.length_take];omega
      have c1:(n:Int)<(odd.length:Int):=by omega
      have c2:(0:Int)≤(n:Int):=by omega
      have hrd:=rdG odd n hlt;have hw:wq ((n:Int)+1)=((n+1:Nat):Int):=by rw [jf (by omega) (by omega)];simp
      have hi:=ih (n+1) (by omega) (by omega);rw [← htk] at hi;refine Ev.step (fun k=>rfl) ?_;simp only [fO.l1,fO.l1T,decide_eq_true_eq,c1,c2,if_true,hrd,hw,ha,Option.bind_some,hl];exact hi
  have k0:∀ (d n:Nat),core.length - n=d→n≤core.length→∀ (Y:Nat→List (List Sp)→Option P.S25),Ev (fun k=>Y k core) ⟨p,c,core,odd⟩→Ev (fun k=>fO.l0 (Y k) core (core.length:Int) k (n:Int) (core.take n)) ⟨p,c,core,odd⟩:=by
    intro d;induction d with
    | zero =>
      intro n hd hn Y hY;rw [List.take_of_length_le (by omega)];have c1:¬ (n:Int)<(core.length:Int):=by omega
      refine Ev.step (fun k=>rfl) ?_;simp only [fO.l0,fO.l0T,decide_eq_true_eq,c1,if_false];exact Ev.shift hY
    | succ d ih =>
      intro n hd hn Y hY;have hlt:n<core.length:=by omega
      have hb:=SL.len (lo:=0) (h.hcore _ (List.getElem_mem hlt));have ha:∀ k,jF.f k core[n]=some core[n]:=fun k=>aeT k _ (by omega);have htk:core.take n++[core[n]]=core.take (n+1):=(List.take_succ_eq_append_getElem hlt).symm;have hl:(core.take n).length+1≤5864062014805:=by simp only [List.length_take];omega
      have c1:(n:Int)<(core.length:Int):=by omega
      have c2:(0:Int)≤(n:Int):=by omega
      have hrd:=rdL core n hlt;have hw:wq ((n:Int)+1)=((n+1:Nat):Int):=by rw [jf (by omega) (by omega)];simp
      have hi:=ih (n+1) (by omega) (by omega) (fun k=>Y (k+1)) (Ev.shift hY);rw [← htk] at hi;refine Ev.step (fun k=>rfl) ?_;simp only [fO.l0,fO.l0T,decide_eq_true_eq,c1,c2,if_true,hrd,hw,ha,Option.bind_some,hl];exact hi
  unfold fO.f;exact k0 core.length 0 (by omega) (by omega) (fun k y4=>fO.l1 (fun y8=>some (⟨p,c,y4,y8⟩:P.S25)) odd (odd.length:Int) k 0 []) (k1 odd.length 0 (by omega) (by omega))
theorem rJ (l:List Sp) (hl:l.length≤4611686018427387904):Ev (fun k=>iw.f k l l) true:=by
  have key:∀ (d n:Nat),l.length - n=d→n≤l.length→Ev (fun k=>iw.l0 (some false) (some true) l l (l.length:Int) k (n:Int)) true:=by
    intro d;induction d with
    | zero =>
      intro n hd hn;have c1:¬ (n:Int)<(l.length:Int):=by omega
      refine Ev.step (fun k=>rfl) ?_;simp only [iw.l0,iw.l0T,decide_eq_true_eq,c1,if_false];exact Ev.now _
    | succ d ih =>
      intro n hd hn;have c1:(n:Int)<(l.length:Int):=by omega
      have c2:(0:Int)≤(n:Int):=by omega
      have hw:wq ((n:Int)+1)=((n+1:Nat):Int):=by rw [jf (by omega) (by omega)];simp
      refine Ev.step (fun k=>rfl) ?_;simp only [iw.l0,iw.l0T,decide_eq_true_eq,c1,c2,if_true,hw];exact Ev.no (by simp) (ih (n+1) (by omega) (by omega))
  unfold iw.f;exact Ev.no (by simp) (key l.length 0 (by omega) (by omega))
theorem qG (h:SF p c core odd):Ev (fun k=>fF.f k p c core odd p c core odd) true:=by
  have lc:=h.hl;have lo:=h.hlo;have k2:∀ (d n:Nat),odd.length - n=d→n≤odd.length→Ev (fun k=>fF.l2 (some false) (some true) odd (odd.length:Int) odd k (n:Int)) true:=by
    intro d;induction d with
    | zero =>
      intro n hd hn;have c1:¬ (n:Int)<(odd.length:Int):=by omega
      refine Ev.step (fun k=>rfl) ?_;simp only [fF.l2,fF.l2T,decide_eq_true_eq,c1,if_false];exact Ev.now _
    | succ d ih =>
      intro n hd hn;have hlt:n<odd.length:=by omega
      have c1:(n:Int)<(odd.length:Int):=by omega
      have c2:(0:Int)≤(n:Int):=by omega
      have hrd:=rdG odd n hlt;have hw:wq ((n:Int)+1)=((n+1:Nat):Int):=by rw [jf (by omega) (by omega)];simp
      refine Ev.step (fun k=>rfl) ?_;simp only [fF.l2,fF.l2T,decide_eq_true_eq,c1,c2,if_true,hrd,hw];exact Ev.no (by simp) (Ev.bind (rJ odd[n].f1 (by have:=(h.hodd _ (List.getElem_mem hlt)).vV;omega)) (Ev.no (by simp) (ih (n+1) (by omega) (by omega))))
  have k1:∀ (d n:Nat),core.length - n=d→n≤core.length→∀ (Y:Nat→Option Bool),Ev Y true→Ev (fun k=>fF.l1 (some false) (Y k) core (core.length:Int) core k (n:Int)) true:=by
    intro d;induction d with
    | zero =>
      intro n hd hn Y hY;have c1:¬ (n:Int)<(core.length:Int):=by omega
      refine Ev.step (fun k=>rfl) ?_;simp only [fF.l1,fF.l1T,decide_eq_true_eq,c1,if_false];exact Ev.shift hY
    | succ d ih =>
      intro n hd hn Y hY;have hlt:n<core.length:=by omega
      have c1:(n:Int)<(core.length:Int):=by omega
      have c2:(0:Int)≤(n:Int):=by omega
      have hrd:=rdL core n hlt;have hw:wq ((n:Int)+1)=((n+1:Nat):Int):=by rw [jf (by omega) (by omega)];simp
      refine Ev.step (fun k=>rfl) ?_;simp only [fF.l1,fF.l1T,decide_eq_true_eq,c1,c2,if_true,hrd,hw];exact Ev.bind (rJ core[n] (by have:=(h.hcore _ (List.getElem_mem hlt)).vV;omega)) (Ev.no (by simp) (ih (n+1) (by omega) (by omega) (fun k=>Y (k+1)) (Ev.shift hY)))
  unfold fF.f;refine Ev.no (by simp) (Ev.no (by simp) (Ev.no (by simp) (Ev.no (by simp) ?_)));unfold fF.l0;exact k1 core.length 0 (by omega) (by omega) _ (k2 odd.length 0 (by omega) (by omega))
end Go.Proofs.YtongeknogcboiaaGreat.Q
namespace Go.Proofs.YtongeknogcboiaaGreat.U
set_option linter.unusedVariables false
set_option linter.unusedSimpArgs false
open Go.RowKit Go.Proofs.YtongeknogcboiaaGreatW.gq Go.Proofs.YtongeknogcboiaaGreatW.iR M R P Q
theorem ac9 [Inhabited WT] (pa ca:Int) (ka:List (List Sp)) (oa:List Gn) (fa:acv pa ca ka oa) (p c:Int) (core:List (List Sp)) (odd:List Gn) (ff:acv p c core odd) (i:Int) (hi:(Lit.int .i16 i).wf=true):∃ k,fZ.f k pa ca ka oa p c core odd i=some true:=by
  refine Ev.rounds ?_;unfold fZ.f;obtain ⟨a,a1,a2⟩:=ac8 (p:=pa) (c:=ca) fa.mf;refine Ev.bind a1 ?_;cases a with
  | false=>exact Ev.yes rfl (Ev.bind qX (Ev.now _))
  | true =>
  refine Ev.no (by simp) ?_;obtain ⟨b,b1,b2⟩:=ac8 (p:=p) (c:=c) ff.mf;refine Ev.bind b1 ?_;cases b with
  | false=>exact Ev.yes rfl (Ev.bind qX (Ev.now _))
  | true =>
  refine Ev.no (by simp) ?_;have ha:=a2 rfl;have h:=b2 rfl;have hib : -32768≤i∧i≤32767:=by simpa [Lit.wf,IntKind.min,IntKind.max,IntKind.bits,IntKind.signed] using hi
  have wi:wq i=i:=jf (by omega) (by omega);have ht1 : -60<Int.tmod i 60:=Int.lt_tmod_of_pos i (by omega);have ht2:Int.tmod i 60<60:=Int.tmod_lt_of_pos i (by omega);unfold fZ.l0;simp only [wi,decide_eq_true_eq];generalize Int.tmod i 60=n at ht1 ht2;have sa:=ha.ok.s;have la:=ha.tl n;have na:=ha.th (i:=n) (by omega);refine Ev.bind (tT sa) (Ev.bind (tT h.ok.s) ?_);simp only;obtain ⟨r,r1,r2⟩:=zF sa h.ok n la h.gl na;obtain ⟨s,s1,s2⟩:=aeh sa h.ok n la h.tl;obtain rfl:=s2.one sa h.ok r2;refine Ev.bind r1 (Ev.bind s1 (Ev.yes rfl (Ev.no (by simp) ?_)));obtain ⟨t,t1,t2⟩:=yE 1 (Or.inl rfl) sa h.ok n la h.gl na;obtain ⟨u,u1,u2⟩:=abj sa h.ok n la h.gl;obtain rfl:=u2.one t2;refine Ev.bind t1 (Ev.bind u1 (Ev.yes rfl (Ev.yes rfl (Ev.no (by simp) ?_))));obtain ⟨v,v1,v2⟩:=yE 2 (Or.inr rfl) sa h.ok n la h.gl na;obtain ⟨w,w1,w2⟩:=aeg sa h.ok n la h.gl;obtain rfl:=w2.one v2;refine Ev.bind v1 (Ev.bind w1 (Ev.yes rfl (Ev.yes rfl (Ev.no (by simp) ?_))));obtain ⟨x,x1,x2,x3⟩:=yF sa n;obtain ⟨y,y1,y2,y3⟩:=acT sa n;have xy:y=x:=by
    obtain ⟨⟨xa,xb⟩,xc⟩:=x;obtain ⟨⟨ya,yb⟩,yc⟩:=y;cases xc with
    | true =>
      obtain ⟨e,e1,e2⟩:=x2 rfl;cases yc with
      | true =>
        obtain ⟨_,f1,f2⟩:=y2 rfl;simp only at e1 e2 f1 f2;rw [e1,e2,f1,f2]
      | false=>exact absurd e (y3 rfl).1
    | false =>
      obtain ⟨e,e1⟩:=x3 rfl;cases yc with
      | true=>exact absurd (y2 rfl).1 e
      | false=>simp only at e1;rw [e1,show (⟨ya,yb⟩:Sp)=_ from (y3 rfl).2]
  subst xy;refine Ev.bind x1 (Ev.bind y1 (Ev.no (by simp) (Ev.no (by simp) ?_)));unfold fZ.l1;simp only [decide_eq_true_eq];obtain ⟨g,g1,g2⟩:=yC sa n (by omega);obtain ⟨q,q1,q2⟩:=afT ha.ok n (by omega);obtain rfl:=ha.up (by omega) g2 q2;refine Ev.bind g1 (Ev.bind q1 (Ev.yes rfl (Ev.no (by simp) ?_)));obtain ⟨z,z1,z2⟩:=yD sa n (by omega);obtain ⟨o,o1,o2⟩:=afU ha.ok n (by omega);obtain rfl:=ha.dn (by omega) z2 o2;refine Ev.bind z1 (Ev.bind o1 (Ev.yes rfl (Ev.yes (by simp) ?_)));exact Ev.bind (qG sa) (Ev.yes rfl (Ev.bind (qG h.ok.s) (Ev.yes rfl (Ev.bind qX (Ev.now _)))))
end Go.Proofs.YtongeknogcboiaaGreat.U
namespace Go.Proofs.YtongeknogcboiaaGreat.yG
open Go.ChangeShapes Go.WideShapes Go.ChangeAt Go.RowKit
open Go.ChangeMaps (open_string shut_string)
set_option linter.unusedVariables false
theorem own:ownKnob Tryz.prog.godebug=none:=by kernel_rfl
theorem laidOut:laidOutB Tryz.prog=true:=by kernel_rfl
set_option maxRecDepth 100000 in
theorem lifted (os:Os) (started:os.Started) (H:Type) (enc:TypeId × Value→H) :
    ReturnsInHanded {} Tryz.checked os 5 .any (Rows.convTellsSpec.pre6 enc Tryz.prog Tryz.f5 Rows.convTellsRow.domain false) (Rows.convTellsSpec.post enc Tryz.prog Tryz.f5 false true false false):=by
  refine returnsInHanded_of_change_sized (C:=Tryz.checked) own started (by kernel_rfl) Tryz.func5
    (ChangeSpec.witness6 (enc:=enc) (C:=Tryz.checked) false ⟨#[],#[.agg #[.int .i64 0,.int .i64 0,.slice none 0 0,.slice none 0 0],.agg #[.int .i64 0,.int .i64 0,.slice none 0 0,.slice none 0 0],.int .i16 0],[]⟩ 8 (by kernel_rfl) (by kernel_rfl) (by kernel_rfl) (by kernel_rfl)) ?_
  intro W base args ds gs before hval0 hW hcnd hsz0 _;have hval:∀ (j:Nat) t v,Tryz.f5.params[j]? = some t→args[j]? = some v→Value.okWide Tryz.prog W .any base t v:=hval0;have hW':=hW;obtain ⟨p,q,am,hV,rfl,hfz,hnd⟩:=hW;have hA:DataW.TrodAll enc Tryz.prog W 0 (fun _=>true) true Tryz.f5.params.toList args.toList ds p:=am;rw [Tryz.params5] at hA hval;obtain ⟨v0,aE,d0,ds0,p0,q0,hargs,rfl,rfl,h0,r0⟩:=trodAll_cons hA;obtain ⟨v1,vs1,d1,ds1,p1,q1,rfl,rfl,rfl,h1,r1⟩:=trodAll_cons r0;obtain ⟨v2,vs2,d2,aF,p2,q2,rfl,rfl,rfl,h2,r2⟩:=trodAll_cons r1;obtain ⟨rfl,rfl,rfl⟩:=trodAll_nil r2;obtain rfl:args=#[v0,v1,v2]:=by cases args;simp_all
  obtain ⟨rfl,rfl⟩:=trodVars_none hV;have k0:=h0;have ap:∀ x∈p0,x.block<W.heap.size:=by obtain ⟨m,hm⟩:=k0;exact DataW.trod_lt m _ _ _ hm
  obtain ⟨aa,ab,aG,aH,ac,aI,aJ,af,rfl,aq,au,aw,ax,ay⟩:=P.xW (hval 0 25 v0 rfl rfl) h0;have k1:=h1;have az:∀ x∈p1,x.block<W.heap.size:=by obtain ⟨m,hm⟩:=k1;exact DataW.trod_lt m _ _ _ hm
  obtain ⟨ah,ai,aK,aL,aj,aM,aN,ak,rfl,aA,fx1,aB,aC,aD⟩:=P.xW (hval 1 25 v1 rfl rfl) h1;obtain ⟨a2,rfl,rfl,rfl,w2⟩:=open_int Tryz.underlying53 (hval 2 53 v2 rfl rfl) h2;clear am hval0 hsz0;obtain ⟨kk,hP⟩:=U.ac9 aa ab ac af ay ah ai aj ak aD a2 w2;refine (M.aco (R.fZ.ok kk) (W:=W) (a:=((⟨aa,ab,ac,af⟩:P.S25),(⟨ah,ai,aj,ak⟩:P.S25),a2,())) (vs:=[.agg #[.int .i64 aa,.int .i64 ab,.slice _ ac.length _,.slice _ af.length _],.agg #[.int .i64 ah,.int .i64 ai,.slice _ aj.length _,.slice _ ak.length _],.int .i16 a2]) ⟨⟨_,M.fm0 _ _ aq au aw ax,rfl⟩,⟨⟨_,M.fm0 _ _ aA fx1 aB aC,rfl⟩,⟨⟨_,rfl,rfl⟩,trivial⟩⟩⟩ hP).mono fun e W' ⟨he,ao⟩ => ?_;have al:=ao;subst he;exact ⟨_,rfl,_,_,_,[],_,[],hW',trodAll_mk1 (shut_bool Tryz.underlying4 _),(trodAll_cons_mk (Below.trod laidOut (by kernel_rfl) (of_decide_eq_true (by kernel_rfl)) k0 al ap) (trodAll_cons_mk (Below.trod laidOut (by kernel_rfl) (of_decide_eq_true (by kernel_rfl)) k1 al az) (trodAll_cons_mk (shut_int Tryz.underlying53 w2) trodAll_mk0))),rfl,al.frame _,fun h=>by cases h⟩
theorem over:Rows.convTellsRow.holds Tryz.pinned (OpenSpec.ofChange Rows.convTellsSpec) :=
  OpenClaim.holds_of_wide 5 Tryz.f5 rfl rfl rfl rfl rfl rfl rfl ⟨rfl,rfl,rfl,rfl,rfl⟩ rfl rfl rfl rfl rfl (by kernel_rfl) Tryz.func5 (by kernel_rfl)
    (of_decide_eq_true (by kernel_rfl)) (by unfold Func.isWrapper;first | (rw [if_pos (by decide +kernel)];kernel_rfl) | (rw [if_neg (by decide +kernel)];exact ⟨rfl,rfl⟩))
    (fun os started H enc _=>lifted os started H enc)
theorem proved:Rows.ConvTellsSaid:=over
#print axioms proved
end Go.Proofs.YtongeknogcboiaaGreat.yG
namespace Go.Proofs.YtongeknogcboiaaGreat
theorem convTells_holds:Rows.ConvTellsSaid:=yG.proved
end Go.Proofs.YtongeknogcboiaaGreat

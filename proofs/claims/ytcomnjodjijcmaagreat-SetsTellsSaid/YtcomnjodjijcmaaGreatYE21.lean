/- Lemmas for laws of chapter 7: what the functions that they reach compute. No condition of its own. -/
import Derived.Test.YtcomnjodjijcmaaGreatYE20
namespace Go.Proofs.YtcomnjodjijcmaaGreat.Q
set_option linter.unusedVariables false
set_option linter.unusedSimpArgs false
open Go.RowKit Go.Proofs.YtcomnjodjijcmaaGreatW.dz Go.Proofs.YtcomnjodjijcmaaGreatW.eD M R P
section
variable {p c:Int} {core:List (List Sp)} {odd:List Gn}
def okC (l:List Sp):Prop:=l≠[] → -200≤kJ l∧kT l≤200
def okO (g:Gn):Prop:=(-100≤g.f0∧g.f0≤100)∧(g.f1≠[] → -3000≤kJ g.f1∧kT g.f1≤3000)
structure mW (p c:Int) (core:List (List Sp)) (odd:List Gn):Prop where
  ok:FOK p c core odd
  gr:GR p c core odd
  lc:core.length≤12
  lo:odd.length≤8
  sz:kS core odd≤60
  p60:p≤60
  hc:∀ l∈core,okC l
  ho:∀ g∈odd,okO g
theorem ag6 {i c:Int} (hi : -6000≤i∧i≤6000) (hc:0<c) : -6000≤i / c∧i / c≤6000:=by
  constructor
  · refine (Int.le_ediv_iff_mul_le hc).2 ?_
    have:(-6000:Int)*c ≤ -6000*1:=Int.mul_le_mul_of_nonpos_left (by omega) (by omega);omega
  · rcases Int.lt_or_le i 0 with h | h
    · have:=Int.ediv_neg_of_neg_of_pos h hc;omega
    · have:=Int.ediv_le_self c h;omega
theorem mW.bd (w:mW p c core odd) {i:Int} (hi : -6000≤i∧i≤6000) (hn:fs c core odd i≠[]) : -400000≤gLo p c core odd i∧gHi p c core odd i≤400000:=by
  unfold gLo gHi;cases ho:iW odd i with
  | some l =>
    obtain ⟨g,g1,g2,g3⟩:=je ho;have hf:fs c core odd i=g.f1:=by unfold fs;rw [ho];exact g3.symm
    have hb:fb p c odd i=0:=by unfold fb;rw [ho]
    rw [hf] at hn;have:=(w.ho g g1).2 hn;rw [hf,hb];omega
  | none =>
    have hf:fs c core odd i=fO c core i:=by unfold fs;rw [ho]
    have hb:fb p c odd i=i / c*p:=by unfold fb;rw [ho]
    rw [hf] at hn;obtain ⟨c0,p0,j,hj,j1,j2⟩:=sZ w.ok.s hn;rw [hf,hb,j2];rw [j2] at hn;have:=w.hc _ (List.getElem_mem hj) hn;have q:=ag6 hi c0;have p6:=w.p60;have h1:i / c*p≤6000*p:=Int.mul_le_mul_of_nonneg_right q.2 (by omega);have h2 : -6000*p≤i / c*p:=Int.mul_le_mul_of_nonneg_right q.1 (by omega);omega
theorem mW.ex (w:mW p c core odd) {i:Int} (hi : -6000≤i∧i≤6000) (hn:fs c core odd i≠[]):Ex p c core odd i:=by
  have:=w.bd hi hn;exact ⟨by unfold inR;omega,hn,by omega,by omega⟩
theorem mW.th (w:mW p c core odd) {i:Int} (hi : -6000≤i∧i≤6000):∀ s∈thV p c core odd i,-1000000≤s.f0∧s.f1≤1000000:=by
  intro s hs;rcases zO w.ok.s i with ⟨e,e1,e2⟩ | ⟨e,e1⟩
  · have ev:thV p c core odd i=gT p c core odd i:=by unfold thV;rw [e1]
    rw [ev] at hs;have hS:=w.ok.s.ag3 e;have b:=w.bd hi e.n;obtain ⟨g1,g2,g3⟩:=kD (p:=p) e.n;have t:=SL.ticks hS hs;have h1:=hS.qz (x:=s.f0) (yF.2 ⟨s,hs,Int.le_refl _,t.2.1⟩);have h2:=hS.qz (x:=s.f1) (yF.2 ⟨s,hs,t.2.1,Int.le_refl _⟩);omega
  · have ev:thV p c core odd i=[]:=e1
    rw [ev] at hs;cases hs
theorem tQ {l:List Sp} (h:l≠[]):qP l=(kJ l,kT l,true):=by rw [acZ,if_neg h]
end
variable [Inhabited WT]
variable {p c:Int} {core:List (List Sp)} {odd:List Gn}
theorem ada (h:∀ l∈core,l.length≤4611686018427387904) (hl:core.length≤6000):∀ (d n:Nat),core.length - n=d→n≤core.length→(∀ j (hj:j<core.length),j<n→okC core[j]) →
    ((∀ l∈core,okC l)∧∀ (Y:Nat→Option Bool) (v:Bool),Ev Y v→Ev (fun k=>dw.l0 (some false) (Y k) core (core.length:Int) k (n:Int)) v)∨∀ (Y:Nat→Option Bool),Ev (fun k=>dw.l0 (some false) (Y k) core (core.length:Int) k (n:Int)) false:=by
  intro d;induction d with
  | zero =>
    intro n hd hn hi;refine Or.inl ⟨fun l hl => ?_,fun Y v hY => ?_⟩
    · obtain ⟨j,hj,rfl⟩:=List.getElem_of_mem hl
      exact hi j hj (by omega)
    · have c1:¬ (n:Int)<(core.length:Int):=by omega
      refine Ev.step (fun k=>rfl) ?_;simp only [dw.l0,dw.l0T,decide_eq_true_eq,c1,if_false];exact Ev.shift hY
  | succ d ih =>
    intro n hd hn hi;have hlt:n<core.length:=by omega
    have c1:(n:Int)<(core.length:Int):=by omega
    have c2:(0:Int)≤(n:Int):=by omega
    have hrd:=rdL core n hlt;have hw:wq ((n:Int)+1)=((n+1:Nat):Int):=by rw [iJ (by omega) (by omega)];simp
    have hh:∀ k,gD.f k core[n]=_:=fun k=>adD k core[n] (h _ (List.getElem_mem hlt));by_cases q:okC core[n]
    · have hi2:∀ j (hj:j<core.length),j<n+1→okC core[j]:=fun j hj hjn=>by
        rcases Nat.lt_or_ge j n with g | g
        · exact hi j hj g
        · have:j=n:=by omega
          subst this;exact q
      have go:∀ (Y:Nat→Option Bool) (v:Bool),Ev (fun k=>dw.l0 (some false) (Y (k+1)) core (core.length:Int) k ((n+1:Nat):Int)) v→Ev (fun k=>dw.l0 (some false) (Y k) core (core.length:Int) k (n:Int)) v:=fun Y v hY=>by
        refine Ev.step (fun k=>rfl) ?_;simp only [dw.l0,dw.l0T,decide_eq_true_eq,c1,c2,if_true,hrd,hw,hh,Option.bind_some];by_cases z:core[n]=[]
        · exact Ev.no (by simp [z,qP]) hY
        · have:=q z
          have e:=(tQ z);simp only [e];exact Ev.yes trivial (Ev.no (by omega) (Ev.no (by omega) hY))
      rcases ih (n+1) (by omega) (by omega) hi2 with ⟨a,b⟩ | b
      · exact Or.inl ⟨a,fun Y v hY=>go Y v (b (fun k=>Y (k+1)) v (Ev.shift hY))⟩
      · exact Or.inr fun Y=>go Y false (b (fun k=>Y (k+1)))
    · refine Or.inr fun Y => ?_
      have z:core[n]≠[]:=fun e=>q (fun f=>absurd e f);refine Ev.step (fun k=>rfl) ?_;simp only [dw.l0,dw.l0T,decide_eq_true_eq,c1,c2,if_true,hrd,hw,hh,Option.bind_some,tQ z];by_cases g:kJ core[n] < -200
      · exact Ev.yes g (Ev.now _)
      · exact Ev.no g (Ev.yes (by
          refine Classical.byContradiction fun g2=>q (fun _=>by omega)) (Ev.now _))
theorem adb (h:∀ g∈odd,g.f1.length≤4611686018427387904) (hl:odd.length≤6000):∀ (d n:Nat),odd.length - n=d→n≤odd.length→(∀ j (hj:j<odd.length),j<n→okO odd[j]) →
    ∃ b,Ev (fun k=>dw.l1 (some false) (some true) odd (odd.length:Int) k (n:Int)) b∧(b=true→∀ g∈odd,okO g):=by
  intro d;induction d with
  | zero =>
    intro n hd hn hi;refine ⟨true,?_,fun _ g hg => ?_⟩
    · have c1:¬ (n:Int)<(odd.length:Int):=by omega
      refine Ev.step (fun k=>rfl) ?_;simp only [dw.l1,dw.l1T,decide_eq_true_eq,c1,if_false];exact Ev.now _
    · obtain ⟨j,hj,rfl⟩:=List.getElem_of_mem hg
      exact hi j hj (by omega)
  | succ d ih =>
    intro n hd hn hi;have hlt:n<odd.length:=by omega
    have c1:(n:Int)<(odd.length:Int):=by omega
    have c2:(0:Int)≤(n:Int):=by omega
    have hrd:=rdG odd n hlt;have hw:wq ((n:Int)+1)=((n+1:Nat):Int):=by rw [iJ (by omega) (by omega)];simp
    have hh:∀ k,gD.f k odd[n].f1=_:=fun k=>adD k odd[n].f1 (h _ (List.getElem_mem hlt));by_cases q:okO odd[n]
    · have hi2:∀ j (hj:j<odd.length),j<n+1→okO odd[j]:=fun j hj hjn=>by
        rcases Nat.lt_or_ge j n with g | g
        · exact hi j hj g
        · have:j=n:=by omega
          subst this;exact q
      obtain ⟨b,b1,b2⟩:=ih (n+1) (by omega) (by omega) hi2;refine ⟨b,Ev.step (fun k=>rfl) ?_,b2⟩;simp only [dw.l1,dw.l1T,decide_eq_true_eq,c1,c2,if_true,hrd,hw,hh,Option.bind_some];have q1:=q.1;refine Ev.no (by omega) (Ev.no (by omega) ?_);by_cases z:odd[n].f1=[]
      · exact Ev.no (by simp [z,qP]) b1
      · have:=q.2 z
        simp only [tQ z];exact Ev.yes trivial (Ev.no (by omega) (Ev.no (by omega) b1))
    · refine ⟨false,Ev.step (fun k=>rfl) ?_,fun e=>by cases e⟩
      simp only [dw.l1,dw.l1T,decide_eq_true_eq,c1,c2,if_true,hrd,hw,hh,Option.bind_some];by_cases g1:odd[n].f0 < -100
      · exact Ev.yes g1 (Ev.now _)
      refine Ev.no g1 ?_;by_cases g2:odd[n].f0>100
      · exact Ev.yes g2 (Ev.now _)
      refine Ev.no g2 ?_;have z:odd[n].f1≠[]:=fun e=>q ⟨by omega,fun f=>absurd e f⟩;simp only [tQ z];refine Ev.yes trivial ?_;by_cases g:kJ odd[n].f1 < -3000
      · exact Ev.yes g (Ev.now _)
      · exact Ev.no g (Ev.yes (by
          refine Classical.byContradiction fun g2=>q ⟨by omega,fun _=>by omega⟩) (Ev.now _))
theorem abE (m:MF core odd):∃ b,Ev (fun k=>dw.f k p c core odd) b∧(b=true→mW p c core odd):=by
  unfold dw.f;obtain ⟨b,b1,b2⟩:=zP (p:=p) (c:=c) m;cases b with
  | false=>exact ⟨false,Ev.bind b1 (Ev.yes rfl (Ev.now _)),fun e=>by cases e⟩
  | true =>
    obtain ⟨f,g,lc,lo,sz⟩:=b2 rfl;by_cases p6:p>60
    · exact ⟨false,Ev.bind b1 (Ev.no (by simp) (Ev.yes (by simpa using p6) (Ev.now _))),fun e=>by cases e⟩
    have hC:∀ l∈core,l.length≤4611686018427387904:=fun l hl=>by have:=(f.s.hcore l hl).vE;omega
    have hO:∀ g∈odd,g.f1.length≤4611686018427387904:=fun g hg=>by have:=(f.s.hodd g hg).vE;omega
    obtain ⟨b,e1,e2⟩:=adb hO (by omega) odd.length 0 (by omega) (by omega) (fun j _ h=>by omega);rcases ada hC (by omega) core.length 0 (by omega) (by omega) (fun j _ h=>by omega) with ⟨a,q⟩ | q
    · exact ⟨b,Ev.bind b1 (Ev.no (by simp) (Ev.no (by simpa using p6) (q _ _ e1))),fun e=>⟨f,g,lc,lo,sz,by omega,a,e2 e⟩⟩
    · exact ⟨false,Ev.bind b1 (Ev.no (by simp) (Ev.no (by simpa using p6) (q _))),fun e=>by cases e⟩
theorem oP (l:List Sp) (hl:l.length≤4611686018427387904):Ev (fun k=>dM.f k l l) true:=by
  have key:∀ (d n:Nat),l.length - n=d→n≤l.length→Ev (fun k=>dM.l0 (some false) (some true) l l (l.length:Int) k (n:Int)) true:=by
    intro d;induction d with
    | zero =>
      intro n hd hn;have c1:¬ (n:Int)<(l.length:Int):=by omega
      refine Ev.step (fun k=>rfl) ?_;simp only [dM.l0,dM.l0T,decide_eq_true_eq,c1,if_false];exact Ev.now _
    | succ d ih =>
      intro n hd hn;have c1:(n:Int)<(l.length:Int):=by omega
      have c2:(0:Int)≤(n:Int):=by omega
      have hw:wq ((n:Int)+1)=((n+1:Nat):Int):=by rw [iJ (by omega) (by omega)];simp
      refine Ev.step (fun k=>rfl) ?_;simp only [dM.l0,dM.l0T,decide_eq_true_eq,c1,c2,if_true,hw];exact Ev.no (by simp) (ih (n+1) (by omega) (by omega))
  unfold dM.f;exact Ev.no (by simp) (key l.length 0 (by omega) (by omega))
theorem tT (h:SF p c core odd):Ev (fun k=>cZ.f k p c core odd p c core odd) true:=by
  have lc:=h.hl;have lo:=h.hlo;have k2:∀ (d n:Nat),odd.length - n=d→n≤odd.length→Ev (fun k=>cZ.l2 (some false) (some true) odd (odd.length:Int) odd k (n:Int)) true:=by
    intro d;induction d with
    | zero =>
      intro n hd hn;have c1:¬ (n:Int)<(odd.length:Int):=by omega
      refine Ev.step (fun k=>rfl) ?_;simp only [cZ.l2,cZ.l2T,decide_eq_true_eq,c1,if_false];exact Ev.now _
    | succ d ih =>
      intro n hd hn;have hlt:n<odd.length:=by omega
      have c1:(n:Int)<(odd.length:Int):=by omega
      have c2:(0:Int)≤(n:Int):=by omega
      have hrd:=rdG odd n hlt;have hw:wq ((n:Int)+1)=((n+1:Nat):Int):=by rw [iJ (by omega) (by omega)];simp
      refine Ev.step (fun k=>rfl) ?_;simp only [cZ.l2,cZ.l2T,decide_eq_true_eq,c1,c2,if_true,hrd,hw];exact Ev.no (by simp) (Ev.bind (oP odd[n].f1 (by have:=(h.hodd _ (List.getElem_mem hlt)).vE;omega)) (Ev.no (by simp) (ih (n+1) (by omega) (by omega))))
  have k1:∀ (d n:Nat),core.length - n=d→n≤core.length→∀ (Y:Nat→Option Bool),Ev Y true→Ev (fun k=>cZ.l1 (some false) (Y k) core (core.length:Int) core k (n:Int)) true:=by
    intro d;induction d with
    | zero =>
      intro n hd hn Y hY;have c1:¬ (n:Int)<(core.length:Int):=by omega
      refine Ev.step (fun k=>rfl) ?_;simp only [cZ.l1,cZ.l1T,decide_eq_true_eq,c1,if_false];exact Ev.shift hY
    | succ d ih =>
      intro n hd hn Y hY;have hlt:n<core.length:=by omega
      have c1:(n:Int)<(core.length:Int):=by omega
      have c2:(0:Int)≤(n:Int):=by omega
      have hrd:=rdL core n hlt;have hw:wq ((n:Int)+1)=((n+1:Nat):Int):=by rw [iJ (by omega) (by omega)];simp
      refine Ev.step (fun k=>rfl) ?_;simp only [cZ.l1,cZ.l1T,decide_eq_true_eq,c1,c2,if_true,hrd,hw];exact Ev.bind (oP core[n] (by have:=(h.hcore _ (List.getElem_mem hlt)).vE;omega)) (Ev.no (by simp) (ih (n+1) (by omega) (by omega) (fun k=>Y (k+1)) (Ev.shift hY)))
  unfold cZ.f;refine Ev.no (by simp) (Ev.no (by simp) (Ev.no (by simp) (Ev.no (by simp) ?_)));unfold cZ.l0;exact k1 core.length 0 (by omega) (by omega) _ (k2 odd.length 0 (by omega) (by omega))
end Go.Proofs.YtcomnjodjijcmaaGreat.Q
namespace Go.Proofs.YtcomnjodjijcmaaGreat.Q
set_option linter.unusedVariables false
set_option linter.unusedSimpArgs false
open Go.RowKit Go.Proofs.YtcomnjodjijcmaaGreatW.dz Go.Proofs.YtcomnjodjijcmaaGreatW.eD M R P
section
def rn (a b:Nat):Nat:=if a=0 then b else if b=0 then a else Nat.lcm a b
def rt (p:Int) (a:Nat) (p':Int) (b:Nat):Int:=if a=0 then p' else p*((rn a b / a:Nat):Int)
theorem ag7:∀ (b a:Nat),∃ K,∀ k,K≤k→P.fq.l0 k (a:Int) (b:Int)=some ((Nat.gcd a b:Nat):Int):=by
  intro b;induction b using Nat.strongRecOn with
  | ind b ih =>
    intro a;by_cases hb:b=0
    · subst hb
      refine ⟨1,fun k hk => ?_⟩;obtain ⟨k,rfl⟩:∃ j,k=j+1:=⟨k - 1,by omega⟩;simp [P.fq.l0]
    · obtain ⟨K,hK⟩:=ih (a % b) (Nat.mod_lt _ (by omega)) b
      refine ⟨K+1,fun k hk => ?_⟩;obtain ⟨k,rfl⟩:∃ j,k=j+1:=⟨k - 1,by omega⟩;have h0:¬ ((b:Int)=0):=by omega
      have e:Int.tmod (a:Int) (b:Int)=((a % b:Nat):Int):=rfl;simp only [P.fq.l0,if_neg h0,e];rw [hK k (by omega),Nat.gcd_comm a b,Nat.gcd_rec b a,Nat.gcd_comm b]
theorem lcm_div (a b:Nat):Nat.lcm a b=a / Nat.gcd a b*b:=by
  unfold Nat.lcm;rw [Nat.mul_comm a b,Nat.mul_div_assoc _ (Nat.gcd_dvd_left a b),Nat.mul_comm]
theorem yH {a b:Int} (h0:0≤a*b) (h1:a*b≤1099511627776):yj a b=(a*b,0):=by
  unfold yj;rw [if_pos (by omega)]
theorem afN (a b:Nat):Ev (fun k=>R.fq.f k (a:Int) (b:Int)) ((Nat.gcd a b:Nat):Int):=by
  obtain ⟨K,hK⟩:=ag7 b a;refine ⟨K,fun k hk => ?_⟩;show (if 0≤(a:Int)∧0≤(b:Int) then P.fq.l0 k (a:Int) (b:Int) else none)=_;rw [if_pos (by omega)];exact hK k hk
end
variable [Inhabited WT]
variable {p c p' c':Int} {core fu:List (List Sp)} {odd kr:List Gn}
theorem afO (a b:Nat) (ha:1≤a∧a≤6000) (hb:1≤b∧b≤6000):Ev (fun k=>iQ.f k (a:Int) (b:Int)) (((Nat.lcm a b:Nat):Int),0):=by
  have sa:∀ k,gy.f k (a:Int)=some (a:Int):=fun k=>by rw [yB k _ (by omega) (by omega),if_neg (by omega)]
  have sb:∀ k,gy.f k (b:Int)=some (b:Int):=fun k=>by rw [yB k _ (by omega) (by omega),if_neg (by omega)]
  have hg:1≤Nat.gcd a b:=Nat.gcd_pos_of_pos_left _ (by omega);have hle:a / Nat.gcd a b≤6000:=Nat.le_trans (Nat.div_le_self _ _) ha.2;have hpr:a / Nat.gcd a b*b≤6000*6000:=Nat.mul_le_mul hle hb.2;have hd:Int.tdiv (a:Int) ((Nat.gcd a b:Nat):Int)=((a / Nat.gcd a b:Nat):Int):=rfl;unfold iQ.f;simp only [sa,sb,Option.bind_some,decide_eq_true_eq];refine Ev.no (by omega) (Ev.no (by omega) (Ev.bind (afN a b) (Ev.no (by omega) ?_)));refine Ev.congr (f:=fun _=>some (((Nat.lcm a b:Nat):Int),(0:Int))) (fun k => ?_) (Ev.now _);have e1:wC .u64 (Int.tdiv (a:Int) ((Nat.gcd a b:Nat):Int))=((a / Nat.gcd a b:Nat):Int):=by
    rw [hd];generalize a / Nat.gcd a b=q at hle;exact tH (by omega) (by omega)
  have e2:((a / Nat.gcd a b:Nat):Int)*(b:Int)=((Nat.lcm a b:Nat):Int):=by rw [lcm_div];simp
  have e3:((Nat.lcm a b:Nat):Int)≤36000000:=by rw [lcm_div];omega
  simp only [e1];rw [abo k _ _ (by generalize a / Nat.gcd a b=q at hle;omega) (by omega),e2];have e4:((Nat.lcm a b:Nat):Int) / 18446744073709551616=0:=by omega
  have e5:((Nat.lcm a b:Nat):Int) % 18446744073709551616=((Nat.lcm a b:Nat):Int):=by omega
  simp only [e4,e5,Option.bind_some];rw [yC k _ _ (by omega),if_neg (by simp),if_neg (by simp),if_pos (by omega)];rfl
theorem vH (h:SF p c core odd) (h':SF p' c' fu kr) (hn:rn core.length fu.length≤6000) (ht:rt p core.length p' fu.length≤1099511627776) :
    Ev (fun k=>dR.f k p c core odd p' c' fu kr) (((rn core.length fu.length:Nat):Int),rt p core.length p' fu.length,0):=by
  have hc:=h.hc;have hc':=h'.hc;have l1:=h.hl;have l2:=h'.hl;have p0:=h.hp0;have p0':=h'.hp0;have z:=h.hz;have z':=h'.hz;subst hc;subst hc';unfold dR.f;simp only [decide_eq_true_eq];by_cases ha:core.length=0
  · have en:rn core.length fu.length=fu.length:=by unfold rn;rw [if_pos ha]
    have et:rt p core.length p' fu.length=p':=by unfold rt;rw [if_pos ha]
    rw [en,et];rw [en] at hn;rw [et] at ht;refine Ev.no (by omega) ?_;have hm:mx (core.length:Int) (fu.length:Int)=(fu.length:Int):=by unfold mx;split <;> omega
    unfold dR.l0;simp only [decide_eq_true_eq,hm];refine Ev.no (by omega) ?_;by_cases hb:fu.length=0
    · refine Ev.yes (by omega) ?_
      rw [hb,z'.1 (by omega)];exact Ev.now _
    · refine Ev.no (by omega) (Ev.yes (by omega) (Ev.no (by omega) ?_))
      have e1:wq (Int.tdiv (fu.length:Int) (fu.length:Int))=1:=by rw [Int.tdiv_self (by omega)];exact iJ (by omega) (by omega)
      rw [e1];refine Ev.bind (yD p' 1 (by omega) (by omega)) ?_;rw [yH (by omega) (by omega),Int.mul_one];exact Ev.no (by simp) (Ev.no (by omega) (Ev.now _))
  · have et:rt p core.length p' fu.length=p*((rn core.length fu.length / core.length:Nat):Int):=by unfold rt;rw [if_neg ha]
    have hnn:1≤rn core.length fu.length:=by
      unfold rn;rw [if_neg ha];split
      · omega
      · exact Nat.lcm_pos (by omega) (by omega)
    have fin:∀ n:Nat,n=rn core.length fu.length→Ev (fun k=>dR.l0 (fun _ _ _ _ _ _ _ _=>some ((0:Int),(0:Int),(3:Int))) (fun _ _ _ _ _ _ _ _=>some (0,0,0)) (fun _ _ _ _ _ _ _ _=>some (0,0,20)) (fun a b _ _ _ _ _ _ _ _=>some (a,b,0)) (fun _ _ _ _ _ _ _ _=>some (0,0,20)) (fun a b _ _ _ _ _ _ _ _=>some (a,b,0)) k (n:Int) p (core.length:Int) core odd p' (fu.length:Int) fu kr) (((rn core.length fu.length:Nat):Int),rt p core.length p' fu.length,0):=by
      rintro n rfl;unfold dR.l0;simp only [decide_eq_true_eq];refine Ev.no (by omega) (Ev.no (by omega) (Ev.no (by omega) (Ev.no (by omega) ?_)));have hq:rn core.length fu.length / core.length≤6000:=Nat.le_trans (Nat.div_le_self _ _) hn;have e1:wq (Int.tdiv ((rn core.length fu.length:Nat):Int) (core.length:Int))=((rn core.length fu.length / core.length:Nat):Int):=by
        rw [show Int.tdiv ((rn core.length fu.length:Nat):Int) (core.length:Int)=((rn core.length fu.length / core.length:Nat):Int) from rfl];generalize rn core.length fu.length / core.length=q at hq ⊢;exact iJ (by omega) (by omega)
      rw [e1];have hp1:=h.hp1;rw [et] at ht ⊢;generalize rn core.length fu.length / core.length=q at hq ht ⊢;refine Ev.bind (yD p _ (by omega) (by omega)) ?_;rw [yH (Int.mul_nonneg p0 (by omega)) ht];exact Ev.no (by simp) (Ev.no (by omega) (Ev.now _))
    refine Ev.yes (by omega) ?_;by_cases hb:fu.length=0
    · refine Ev.no (by omega) ?_
      have hm:mx (core.length:Int) (fu.length:Int)=(core.length:Int):=by unfold mx;split <;> omega
      rw [hm];exact fin core.length (by unfold rn;rw [if_neg ha,if_pos hb])
    · refine Ev.yes (by omega) (Ev.bind (afO core.length fu.length (by omega) (by omega)) ?_)
      exact fin _ (by unfold rn;rw [if_neg ha,if_neg hb])
theorem adE (h:SF p c core odd) (i:Int) (hi : -6000≤i∧i≤6000) (hp:p≤100000000) (hm:∀ s∈bT p c core i,-1099511627776≤s.f0∧s.f1≤1099511627776):Ev (fun k=>gJ.f k p c core odd i) (bT p c core i,0):=by
  have hc:=h.hc;have p0:=h.hp0;unfold gJ.f;simp only [decide_eq_true_eq];by_cases hz:c=0
  · refine Ev.yes hz ?_
    have:bT p c core i=[]:=by unfold bT fO;rw [if_pos hz];rfl
    rw [this];exact Ev.now _
  · have c0:0<c:=by omega
    have hl:=h.hl;have q1:=Int.emod_nonneg i hz;have q2:=Int.emod_lt_of_pos i c0;have hd:=ag6 hi c0;have hmu : -6000*100000000≤i / c*p∧i / c*p≤6000*100000000:=by
      constructor
      · have h1 : -6000*p≤i / c*p:=Int.mul_le_mul_of_nonneg_right hd.1 p0
        omega
      · have h1:i / c*p≤6000*p:=Int.mul_le_mul_of_nonneg_right hd.2 p0
        omega
    have hmv:yj (i / c) p=(i / c*p,0):=by unfold yj;rw [if_pos (by omega)]
    have hj:(i % c).toNat<core.length:=by omega
    have hrd:gL core (i % c)=fO c core i:=by
      unfold fO;rw [if_neg hz]
    refine Ev.no hz (Ev.bind (o8 i c (by omega) (by omega)) (Ev.bind (yD (i / c) p (by omega) (by omega)) (Ev.yes q1 (Ev.yes (show i % c<(core.length:Int) by omega) ?_))));simp only [hrd,hmv];by_cases hn:fO c core i=[]
    · refine Ev.yes (by rw [hn];rfl) ?_
      have:bT p c core i=[]:=by unfold bT;rw [hn];rfl
      rw [this];exact Ev.now _
    · refine Ev.no (by have:=List.length_pos_iff.2 hn;omega) (Ev.no (by simp) (Ev.no (by simp) (Ev.yes q1 (Ev.yes (show i % c<(core.length:Int) by omega) ?_))))
      have hS:SL (-1099511627776) 1099511627776 (fO c core i):=h.hcore _ (h.jq i hz);have hok:(fO c core i).all (okM (i / c*p))=true:=List.all_eq_true.2 fun s hs=>qy.2 (by
        have:=hm (eO (i / c*p) s) (List.mem_map_of_mem hs);have q:=SL.ticks hS hs;simp only [eO] at this;omega)
      have hmo:lU (i / c*p) (fO c core i)=(bT p c core i,0):=by unfold lU;rw [if_pos hok];rfl
      refine Ev.bind (abj _ _ hS (by omega)) ?_;rw [hmo];exact Ev.now _
theorem abF (h:SF p c core odd):∃ b,Ev (fun k=>eu.f k p c core odd) b∧(b=true↔∃ l∈core,l≠[]):=by
  have hl0:=h.hl;unfold eu.f;have key:∀ (rest pre:List (List Sp)),core=pre++rest→(∀ l∈pre,l=[])→∃ b,Ev (fun k=>eu.l0 (fun y=>some (decide (y≥0))) (some false) core (core.length:Int) k (pre.length:Int)) b∧(b=true↔∃ l∈core,l≠[]):=by
    intro rest;induction rest with
    | nil =>
      intro pre hp he;refine ⟨false,Ev.step (f:=fun _=>some false) (fun k => ?_) (Ev.now _),?_⟩
      · have c1:¬ (pre.length:Int)<(core.length:Int):=by rw [hp];simp
        simp only [eu.l0,eu.l0T,decide_eq_true_eq,c1,if_false]
      · simp only [List.append_nil] at hp
        subst hp;exact ⟨fun e=>(by cases e),fun ⟨l,h1,h2⟩=>absurd (he l h1) h2⟩
    | cons l r ih =>
      intro pre hp he;have hlen:pre.length+1≤core.length:=by rw [hp];simp
      have hrd:gL core (pre.length:Int)=l:=by rw [hp];simp [gL]
      have c1:(pre.length:Int)<(core.length:Int):=by omega
      have c2:(0:Int)≤(pre.length:Int):=by omega
      have hw:=nx c1 c2 (by omega);by_cases hz:l=[]
      · obtain ⟨x,x1,x2⟩:=ih (pre++[l]) (by rw [hp];simp) (fun y hy=>by rcases List.mem_append.1 hy with hy | hy;exact he y hy;simp at hy;rw [hy];exact hz)
        refine ⟨x,Ev.step (fun k=>rfl) ?_,x2⟩;simp only [eu.l0,eu.l0T,decide_eq_true_eq,c1,c2,if_true,hrd,hw,iB.f,hz,Option.bind_some];rw [len1 _ l];exact x1
      · refine ⟨true,Ev.step (f:=fun _=>some true) (fun k => ?_) (Ev.now _),?_⟩
        · have:((l.length:Int)>0):=by have:=List.length_pos_iff.2 hz;omega
          simp only [eu.l0,eu.l0T,decide_eq_true_eq,c1,c2,if_true,hrd,iB.f,this,Option.bind_some];simp
        · exact ⟨fun _=>⟨l,by rw [hp];simp,hz⟩,fun _=>rfl⟩
  exact key core [] rfl (by simp)
end Go.Proofs.YtcomnjodjijcmaaGreat.Q
namespace Go.Proofs.YtcomnjodjijcmaaGreat.Q
set_option linter.unusedVariables false
set_option linter.unusedSimpArgs false
open Go.RowKit Go.Proofs.YtcomnjodjijcmaaGreatW.dz Go.Proofs.YtcomnjodjijcmaaGreatW.eD M R P
section
abbrev Fm:=P.S25
def al (x y:List Sp):Prop:=x≠[]→y≠[]→x=y
def DU (x y:List Sp):List Sp:=if x=[] then y else x
def DC (x y:List Sp):List Sp:=if y=[] then [] else x
def DL (x y:List Sp):List Sp:=if y=[] then x else []
def bF (A:Fm) (i:Int):List Sp:=bT A.f0 A.f1 A.f2 i
def vF (A:Fm) (i:Int):List Sp × Int:=jm A.f0 A.f1 A.f2 A.f3 i
def nF (A B:Fm):Nat:=rn A.f2.length B.f2.length
def tF (A B:Fm):Int:=rt A.f0 A.f2.length B.f0 B.f2.length
def mG (A B:Fm):Prop:=A.f2=[]∨B.f2=[]∨tF A B=tF B A
def iK (A B:Fm):List Int:=iN (jU ((A.f3++B.f3).map fun g=>g.f0))
def sfF (A:Fm):Prop:=SF A.f0 A.f1 A.f2 A.f3
structure OfH (A B:Fm):Prop where
  sa:sfF A
  sb:sfF B
  ga:A.f2≠[]→∃ l∈A.f2,l≠[]
  gb:B.f2≠[]→∃ l∈B.f2,l≠[]
  n:nF A B≤6000
  t:tF A B≤1099511627776
  t':tF B A≤1099511627776
  pa:A.f0≤100000000
  pb:B.f0≤100000000
  ma:∀ i,0≤i→i<(nF A B:Int)→∀ s∈bF A i,-1099511627776≤s.f0∧s.f1≤1099511627776
  mb:∀ i,0≤i→i<(nF A B:Int)→∀ s∈bF B i,-1099511627776≤s.f0∧s.f1≤1099511627776
  o:A.f3.length+B.f3.length≤6000
theorem aeN (a b:Nat):rn a b=rn b a:=by
  unfold rn;by_cases h:a=0
  · by_cases g:b=0
    · rw [if_pos h,if_pos g,h,g]
    · rw [if_pos h,if_neg g,if_pos h]
  · by_cases g:b=0
    · rw [if_neg h,if_pos g,if_pos g]
    · rw [if_neg h,if_neg g,if_neg g,if_neg h,Nat.lcm_comm]
theorem oC (A B:Fm):nF A B=nF B A:=aeN _ _
theorem mX (A B:Fm):(iK A B).length≤A.f3.length+B.f3.length:=by
  have h1:(iK A B).length≤(jU ((A.f3++B.f3).map fun g=>g.f0)).length:=Lib.compact_length_le _;have h2:(jU ((A.f3++B.f3).map fun g=>g.f0)).length=A.f3.length+B.f3.length:=by rw [ahw];simp
  omega
theorem nP {A:Fm} (h:sfF A) (i:Int):(bF A i).length≤4611686018427387904:=by
  unfold bF bT;rw [List.length_map];by_cases hc:A.f1=0
  · unfold fO;rw [if_pos hc];simp
  · have:=(h.hcore _ (h.jq i hc)).vE
    omega
theorem rdP (l:List P2) (j:Nat) (hj:j<l.length):gP l (j:Int)=l[j]:=by simp [gP,hj]
theorem rdI (l:List Int) (j:Nat) (hj:j<l.length):gI l (j:Int)=l[j]:=by simp [gI,hj]
theorem afP (k:Nat) (x y:List Sp):gQ.f k x y=some (DU x y):=by
  unfold gQ.f DU;simp only [decide_eq_true_eq];by_cases h:x=[]
  · rw [if_pos h,if_neg (by rw [h];simp)]
  · rw [if_neg h,if_pos (by have:=List.length_pos_iff.2 h;omega)]
theorem afQ (k:Nat) (x y:List Sp):gU.f k x y=some (DC x y):=by
  unfold gU.f DC;simp only [decide_eq_true_eq];by_cases h:y=[]
  · rw [if_pos h,if_neg (by rw [h];simp)]
  · rw [if_neg h,if_pos (by have:=List.length_pos_iff.2 h;omega)]
theorem afR (k:Nat) (x y:List Sp):gV.f k x y=some (DL x y):=by
  unfold gV.f DL;simp only [decide_eq_true_eq];by_cases h:y=[]
  · rw [if_pos h,if_neg (by rw [h];simp)]
  · rw [if_neg h,if_pos (by have:=List.length_pos_iff.2 h;omega)]
end
variable [Inhabited WT]
theorem tV {A B:Fm} (H:OfH A B):∃ r,Ev (fun k=>dL.f k A.f0 A.f1 A.f2 A.f3 B.f0 B.f1 B.f2 B.f3) r∧(mG A B→r=((List.range (nF A B)).map (fun (i:Nat)=>(⟨bF A (i:Int),bF B (i:Int)⟩:P2)),tF A B,0))∧(¬ mG A B→r=([],0,51)):=by
  obtain ⟨ga,a1,a2⟩:=abF H.sa;obtain ⟨gb,b1,b2⟩:=abF H.sb;have ra:=vH H.sa H.sb H.n H.t;have rb:=vH H.sb H.sa (by have:=H.n;rw [oC] at this;exact this) H.t';have za:A.f2≠[]↔ga=true:=⟨fun h=>a2.2 (H.ga h),fun e h=>by obtain ⟨l,hl,_⟩:=a2.1 e;rw [h] at hl;cases hl⟩;have zb:B.f2≠[]↔gb=true:=⟨fun h=>b2.2 (H.gb h),fun e h=>by obtain ⟨l,hl,_⟩:=b2.1 e;rw [h] at hl;cases hl⟩;have hn:=H.n;have key:∀ (d j:Nat),nF A B - j=d→j≤nF A B→Ev (fun k=>dL.l1 (fun _=>some (([]:List P2),(0:Int),(20:Int))) (fun y=>some (y,tF A B,0)) (nF A B:Int) A.f0 A.f1 A.f2 A.f3 B.f0 B.f1 B.f2 B.f3 k ((List.range j).map (fun (i:Nat)=>(⟨bF A (i:Int),bF B (i:Int)⟩:P2))) (j:Int)) ((List.range (nF A B)).map (fun (i:Nat)=>(⟨bF A (i:Int),bF B (i:Int)⟩:P2)),tF A B,0):=by
    intro d;induction d with
    | zero =>
      intro j hd hj;obtain rfl:j=nF A B:=by omega
      refine Ev.step (f:=fun _=>some _) (fun k => ?_) (Ev.now _);have c1:¬ (nF A B:Int)<(nF A B:Int):=by omega
      simp only [dL.l1,dL.l1T,decide_eq_true_eq,c1,if_false]
    | succ d ih =>
      intro j hd hj;have c1:(j:Int)<(nF A B:Int):=by omega
      have hw:=nx c1 (by omega) (by omega);refine Ev.step (fun k=>rfl) ?_;simp only [dL.l1,dL.l1T,decide_eq_true_eq,c1,if_true,hw];have hlen:((List.range j).map (fun (i:Nat)=>(⟨bF A (i:Int),bF B (i:Int)⟩:P2))).length+1≤2932031007402:=by simp;omega
      refine Ev.bind (adE H.sa (j:Int) (by omega) H.pa (H.ma _ (by omega) c1)) (Ev.bind (adE H.sb (j:Int) (by omega) H.pb (H.mb _ (by omega) c1)) (Ev.no (by simp) (Ev.no (by simp) ?_)));refine Ev.yes hlen ?_;have:=ih (j+1) (by omega) (by omega);rw [List.range_succ,List.map_append] at this;exact this
  have aa:=key (nF A B) 0 (by omega) (by omega);simp only [List.range_zero,List.map_nil,Int.natCast_zero] at aa;unfold dL.f;by_cases ha:A.f2=[]
  · have hga:ga=false:=by
      cases ga
      · rfl
      · exact absurd ha (za.2 rfl)
    subst hga;refine ⟨_,Ev.bind ra (Ev.no (by simp) (Ev.bind a1 (Ev.no (by simp) ?_))),fun _=>rfl,fun hf=>absurd (.inl ha) hf⟩;exact aa
  · have hga:ga=true:=za.1 ha
    subst hga;by_cases hb:B.f2=[]
    · have hgb:gb=false:=by
        cases gb
        · rfl
        · exact absurd hb (zb.2 rfl)
      subst hgb;refine ⟨_,Ev.bind ra (Ev.no (by simp) (Ev.bind a1 (Ev.yes rfl (Ev.bind b1 (Ev.no (by simp) ?_))))),fun _=>rfl,fun hf=>absurd (.inr (.inl hb)) hf⟩;exact aa
    · have hgb:gb=true:=zb.1 hb
      subst hgb;by_cases hf:tF B A=tF A B
      · refine ⟨_,Ev.bind ra (Ev.no (by simp) (Ev.bind a1 (Ev.yes rfl (Ev.bind b1 (Ev.yes rfl (Ev.bind rb (Ev.no (by simp only [Bool.not_eq_true',decide_eq_false_iff_not];exact fun e=>e hf) ?_))))))),fun _=>rfl,fun hf'=>absurd (.inr (.inr hf.symm)) hf'⟩
        exact aa
      · refine ⟨_,Ev.bind ra (Ev.no (by simp) (Ev.bind a1 (Ev.yes rfl (Ev.bind b1 (Ev.yes rfl (Ev.bind rb (Ev.yes (by simp only [Bool.not_eq_true',decide_eq_false_iff_not];exact hf) (Ev.now _)))))))),fun hf' => ?_,fun _=>rfl⟩
        rcases hf' with e | e | e
        · exact absurd e ha
        · exact absurd e hb
        · exact absurd e.symm hf
theorem l8 (l:List P2) (hl:l.length≤6000) (hm:∀ q∈l,q.f0.length≤4611686018427387904):∃ b,Ev (fun k=>dS.f k l) b∧(b=true↔∀ q∈l,al q.f0 q.f1):=by
  unfold dS.f;have one:∀ q∈l,∃ b,Ev (fun k=>gK.f k q.f0 q.f1) b∧(b=false↔al q.f0 q.f1):=fun q hq=>by
    unfold gK.f;simp only [decide_eq_true_eq];by_cases h1:q.f0=[]
    · refine ⟨false,Ev.no (by rw [h1];simp) (Ev.now _),fun _ a=>absurd h1 a,fun _=>rfl⟩
    · by_cases h2:q.f1=[]
      · refine ⟨false,Ev.yes (by have:=List.length_pos_iff.2 h1;omega) (Ev.no (by rw [h2];simp) (Ev.now _)),fun _ _ a=>absurd h2 a,fun _=>rfl⟩
      · obtain ⟨r,r1,r2⟩:=abw q.f0 q.f1 (hm q hq)
        refine ⟨!r,Ev.yes (by have:=List.length_pos_iff.2 h1;omega) (Ev.yes (by have:=List.length_pos_iff.2 h2;omega) (Ev.bind r1 (Ev.now _))),?_⟩;cases r with
        | true=>exact ⟨fun _ _ _=>r2.1 rfl,fun _=>rfl⟩
        | false=>exact ⟨fun e=>(by cases e),fun a=>absurd (r2.2 (a h1 h2)) (by simp)⟩
  have key:∀ (rest pre:List P2),l=pre++rest→(∀ q∈pre,al q.f0 q.f1)→∃ b,Ev (fun k=>dS.l0 (fun y=>some (!decide (y≥0))) (some true) l (l.length:Int) k (pre.length:Int)) b∧(b=true↔∀ q∈l,al q.f0 q.f1):=by
    intro rest;induction rest with
    | nil =>
      intro pre hp he;refine ⟨true,Ev.step (f:=fun _=>some true) (fun k => ?_) (Ev.now _),?_⟩
      · have c1:¬ (pre.length:Int)<(l.length:Int):=by rw [hp];simp
        simp only [dS.l0,dS.l0T,decide_eq_true_eq,c1,if_false]
      · simp only [List.append_nil] at hp
        subst hp;exact ⟨fun _=>he,fun _=>rfl⟩
    | cons q r ih =>
      intro pre hp he;have hlen:pre.length+1≤l.length:=by rw [hp];simp
      have hrd:gP l (pre.length:Int)=q:=by rw [hp];simp [gP]
      have hq:q∈l:=by rw [hp];simp
      have c1:(pre.length:Int)<(l.length:Int):=by omega
      have c2:(0:Int)≤(pre.length:Int):=by omega
      have hw:=nx c1 c2 (by omega);obtain ⟨b,b1,b2⟩:=one q hq;cases b with
      | false =>
        obtain ⟨x,x1,x2⟩:=ih (pre++[q]) (by rw [hp];simp) (fun y hy=>by
          rcases List.mem_append.1 hy with hy | hy
          · exact he y hy
          · simp at hy;rw [hy];exact b2.1 rfl)
        refine ⟨x,Ev.step (fun k=>rfl) ?_,x2⟩;simp only [dS.l0,dS.l0T,decide_eq_true_eq,c1,c2,if_true,hrd,hw];refine Ev.bind b1 (Ev.no (by simp) ?_);rw [len1 _ q];exact x1
      | true =>
        refine ⟨false,Ev.step (fun k=>rfl) ?_,fun e=>(by cases e),fun e=>absurd (b2.2 (e q hq)) (by simp)⟩;simp only [dS.l0,dS.l0T,decide_eq_true_eq,c1,c2,if_true,hrd,hw];refine Ev.bind b1 (Ev.yes rfl ?_);exact Ev.congr (f:=fun _=>some false) (fun k=>by simp) (Ev.now _)
  exact key l [] rfl (by simp)
theorem abH (x y:List Gn) (h:x.length+y.length≤6000):Ev (fun k=>cO.f k [x,y]) (x++y):=by
  refine ⟨3,fun k hk => ?_⟩;obtain ⟨k,rfl⟩:∃ j,k=j+3:=⟨k - 3,by omega⟩;have w0:wq (x.length:Int)=(x.length:Int):=iJ (by omega) (by omega);have w1:wq ((x.length:Int)+(y.length:Int))=(x.length:Int)+(y.length:Int):=iJ (by omega) (by omega);have w2:wq 1=1:=iJ (by omega) (by omega);have w3:wq 2=2:=iJ (by omega) (by omega);have n1:¬ ((x.length:Int)<0):=by omega
  have n2:¬ ((x.length:Int)+(y.length:Int)<0):=by omega
  have m1:x.length≤4398046511104:=by omega
  have m2:x.length+y.length≤4398046511104:=by omega
  have g0:(0:Int)≤(x.length:Int)+(y.length:Int):=by omega
  have g1:(x.length:Int)+(y.length:Int)≤8796093022208:=by omega
  simp [cO.f,cO.l0,cO.l0T,cO.l1,cO.l1T,dW.f,gM,w0,w1,w2,w3,n1,n2,m1,m2,g0,g1]
theorem wS {A B:Fm} (H:OfH A B):Ev (fun k=>dO.f k A.f0 A.f1 A.f2 A.f3 B.f0 B.f1 B.f2 B.f3) (iK A B,(iK A B).map fun i=>(⟨(vF A i).1,(vF B i).1⟩:P2)):=by
  have ho:=H.o;have hil:=mX A B;unfold dO.f;refine Ev.bind (abH A.f3 B.f3 ho) ?_;have hl:(A.f3++B.f3).length≤6000:=by simp;omega
  have k1:∀ (d j:Nat),(iK A B).length - j=d→j≤(iK A B).length→Ev (fun k=>dO.l1 (fun y9=>some (iK A B,y9)) (iK A B) ((iK A B).length:Int) A.f0 A.f1 A.f2 A.f3 B.f0 B.f1 B.f2 B.f3 k (((iK A B).take j).map fun i=>(⟨(vF A i).1,(vF B i).1⟩:P2)) (j:Int)) (iK A B,(iK A B).map fun i=>(⟨(vF A i).1,(vF B i).1⟩:P2)):=by
    intro d;induction d with
    | zero =>
      intro j hd hj;obtain rfl:j=(iK A B).length:=by omega
      refine Ev.step (f:=fun _=>some _) (fun k => ?_) (Ev.now _);have c1:¬ ((iK A B).length:Int)<((iK A B).length:Int):=by omega
      simp only [dO.l1,dO.l1T,decide_eq_true_eq,c1,if_false,List.take_length]
    | succ d ih =>
      intro j hd hj;have hj':j<(iK A B).length:=by omega
      have c1:(j:Int)<((iK A B).length:Int):=by omega
      have c2:(0:Int)≤(j:Int):=by omega
      have hw:=nx c1 c2 (by omega);refine Ev.step (fun k=>rfl) ?_;simp only [dO.l1,dO.l1T,decide_eq_true_eq,c1,c2,if_true,hw,rdI _ j hj'];have hlen:(((iK A B).take j).map fun i=>(⟨(vF A i).1,(vF B i).1⟩:P2)).length+1≤2932031007402:=by simp;omega
      refine Ev.bind (jK H.sa _) (Ev.bind (jK H.sb _) ?_);refine Ev.yes hlen ?_;have:=ih (j+1) (by omega) (by omega);rw [List.take_succ_eq_append_getElem hj',List.map_append] at this;exact this
  have k0:∀ (d j:Nat),(A.f3++B.f3).length - j=d→j≤(A.f3++B.f3).length→∀ (X:Nat→List Int→Option (List Int × List P2)) (v:List Int × List P2),Ev (fun k=>X k ((A.f3++B.f3).map fun g=>g.f0)) v→Ev (fun k=>dO.l0 (X k) (A.f3++B.f3) ((A.f3++B.f3).length:Int) k (((A.f3++B.f3).take j).map fun g=>g.f0) (j:Int)) v:=by
    intro d;induction d with
    | zero =>
      intro j hd hj X v hX;obtain rfl:j=(A.f3++B.f3).length:=by omega
      refine Ev.step (f:=fun k=>X (k+1) ((A.f3++B.f3).map fun g=>g.f0)) (fun k => ?_) (Ev.shift hX);have c1:¬ ((A.f3++B.f3).length:Int)<((A.f3++B.f3).length:Int):=by omega
      simp only [dO.l0,dO.l0T,decide_eq_true_eq,c1,if_false,List.take_length]
    | succ d ih =>
      intro j hd hj X v hX;have hj':j<(A.f3++B.f3).length:=by omega
      have c1:(j:Int)<((A.f3++B.f3).length:Int):=by omega
      have c2:(0:Int)≤(j:Int):=by omega
      have hw:=nx c1 c2 (by omega);refine Ev.step (fun k=>rfl) ?_;simp only [dO.l0,dO.l0T,decide_eq_true_eq,c1,c2,if_true,hw,rdG _ j hj'];have hlen:(((A.f3++B.f3).take j).map fun g=>g.f0).length+1≤17592186044416:=by simp;omega
      refine Ev.yes hlen ?_;have:=ih (j+1) (by omega) (by omega) (fun k=>X (k+1)) v (Ev.shift hX);rw [List.take_succ_eq_append_getElem hj',List.map_append] at this;exact this
  have fin:=k0 (A.f3++B.f3).length 0 (by omega) (by omega) (fun k y2=>(if (decide (y2.length≤8796093022208))=true then (if (decide ((jU y2).length≤8796093022208))=true then (dO.l1 (fun y9=>(some ((iN (jU y2)),y9))) (iN (jU y2)) ((iN (jU y2)).length:Int) A.f0 A.f1 A.f2 A.f3 B.f0 B.f1 B.f2 B.f3 k [] 0) else none) else none)) (iK A B,(iK A B).map fun i=>(⟨(vF A i).1,(vF B i).1⟩:P2)) (by
    refine Ev.yes (by simp;omega) (Ev.yes (by simp [ahw];omega) ?_);have:=k1 _ 0 rfl (by omega);exact this)
  exact fin
end Go.Proofs.YtcomnjodjijcmaaGreat.Q
namespace Go.Proofs.YtcomnjodjijcmaaGreat.Q
set_option linter.unusedVariables false
set_option linter.unusedSimpArgs false
open Go.RowKit Go.Proofs.YtcomnjodjijcmaaGreatW.dz Go.Proofs.YtcomnjodjijcmaaGreatW.eD M R P
section
def fM (D:List Sp→List Sp→List Sp) (A B:Fm):Fm:=⟨tF A B,(nF A B:Int),(List.range (nF A B)).map (fun (i:Nat)=>D (bF A (i:Int)) (bF B (i:Int))),(iK A B).map fun i=>⟨i,D (vF A i).1 (vF B i).1⟩⟩
def kF (A B:Fm):Prop:=mG A B∧(∀ i:Nat,i<nF A B→al (bF A (i:Int)) (bF B (i:Int)))∧∀ i∈iK A B,al (vF A i).1 (vF B i).1
def grF (A:Fm):Prop:=GR A.f0 A.f1 A.f2 A.f3
def abI (A h:Fm):Prop:=vM A.f0 A.f2 A.f3 h
def noF:Fm:=⟨0,0,[],[]⟩
def OfS (D:List Sp→List Sp→List Sp) (A B:Fm) (r:Fm × Int):Prop :=
  (¬ kF A B→r=(noF,51))∧(kF A B→(¬ grF (fM D A B)→r=(noF,51))∧(grF (fM D A B)→∃ h,abI (fM D A B) h∧r=(h,0)))
def oneOf (D:List Sp→List Sp→List Sp):Prop:=∀ x y,D x y=x∨D x y=y∨D x y=[]
theorem ag8:oneOf DU:=fun x y=>by unfold DU;split;exact .inr (.inl rfl);exact .inl rfl
theorem ag9:oneOf DC:=fun x y=>by unfold DC;split;exact .inr (.inr rfl);exact .inl rfl
theorem aha:oneOf DL:=fun x y=>by unfold DL;split;exact .inl rfl;exact .inr (.inr rfl)
end
variable [Inhabited WT]
theorem pE {p c p' c':Int} {core fu:List (List Sp)} {odd kr:List Gn} {A B:Fm} (ca:Ev (fun k=>dK.f k p c core odd) A) (cb:Ev (fun k=>dK.f k p' c' fu kr) B) (H:OfH A B) (hs:kS (fM DU A B).f2 (fM DU A B).f3≤60000) :
    ∃ r,Ev (fun k=>dA.f k p c core odd p' c' fu kr) r∧OfS DU A B r:=by
  obtain ⟨r1,c1,c2,c3⟩:=tV H;have hn:=H.n;have ho:=H.o;have hil:=mX A B;unfold dA.f;by_cases hf:mG A B
  case neg =>
    have:=c3 hf;subst this;exact ⟨_,Ev.bind ca (Ev.bind cb (Ev.bind c1 (Ev.yes (by simp) (Ev.now _)))),fun _=>rfl,fun h=>absurd h.1 hf⟩
  have:=c2 hf;subst this;obtain ⟨b1,d1,d2⟩:=l8 ((List.range (nF A B)).map (fun (i:Nat)=>(⟨bF A (i:Int),bF B (i:Int)⟩:P2))) (by simp;omega) (fun q hq=>by
    obtain ⟨i,_,rfl⟩:=List.mem_map.1 hq;exact nP H.sa _)
  obtain ⟨b2,e1,e2⟩:=l8 ((iK A B).map fun i=>(⟨(vF A i).1,(vF B i).1⟩:P2)) (by simp;omega) (fun q hq=>by
    obtain ⟨i,_,rfl⟩:=List.mem_map.1 hq;exact jL H.sa _)
  have od:=wS H;cases b1 with
  | false =>
    refine ⟨_,Ev.bind ca (Ev.bind cb (Ev.bind c1 (Ev.no (by simp) (Ev.bind od (Ev.bind d1 (Ev.yes rfl (Ev.now _))))))),fun _=>rfl,fun h => ?_⟩;exact absurd (d2.2 fun q hq=>by
      obtain ⟨i,hi,rfl⟩:=List.mem_map.1 hq;exact h.2.1 i (List.mem_range.1 hi)) (by simp)
  | true =>
  cases b2 with
  | false =>
    refine ⟨_,Ev.bind ca (Ev.bind cb (Ev.bind c1 (Ev.no (by simp) (Ev.bind od (Ev.bind d1 (Ev.no (by simp) (Ev.bind e1 (Ev.yes rfl (Ev.now _))))))))),fun _=>rfl,fun h => ?_⟩;exact absurd (e2.2 fun q hq=>by
      obtain ⟨i,hi,rfl⟩:=List.mem_map.1 hq;exact h.2.2 i hi) (by simp)
  | true =>
  have hal:kF A B:=⟨hf,fun i hi=>d2.1 rfl _ (List.mem_map.2 ⟨i,List.mem_range.2 hi,rfl⟩),fun i hi=>e2.1 rfl _ (List.mem_map.2 ⟨i,hi,rfl⟩)⟩;have m:MF (fM DU A B).f2 (fM DU A B).f3:=by
    refine ⟨fun l hl => ?_,fun g hg => ?_⟩
    · obtain ⟨i,_,rfl⟩:=List.mem_map.1 hl
      have q1:=nP H.sa (i:Int);have q2:=nP H.sb (i:Int);rcases ag8 (bF A (i:Int)) (bF B (i:Int)) with e | e | e
      · rw [e];omega
      · rw [e];omega
      · rw [e];simp
    · obtain ⟨i,_,rfl⟩:=List.mem_map.1 hg
      have q1:(vF A i).1.length≤4611686018427387904:=jL H.sa i;have q2:(vF B i).1.length≤4611686018427387904:=jL H.sb i;show (DU (vF A i).1 (vF B i).1).length≤_;rcases ag8 (vF A i).1 (vF B i).1 with e | e | e
      · rw [e];omega
      · rw [e];omega
      · rw [e];simp
  obtain ⟨n,⟨_,g2⟩,e,f1,f2,f3,f4⟩:=nM (p:=(fM DU A B).f0) (c:=(fM DU A B).f1) m (by simp [fM];omega) (by simp [fM];omega);have hne:=g2 (by omega);have l1:∀ (L:List P2),L.length≤6000→∀ (d j:Nat),L.length - j=d→j≤L.length→∀ (X:Nat→List (List Sp)→Option (Fm × Int)) (v:Fm × Int),Ev (fun k=>X k (L.map fun q=>DU q.f0 q.f1)) v→Ev (fun k=>dA.l1 (X k) L (L.length:Int) k (j:Int) ((L.take j).map fun q=>DU q.f0 q.f1)) v:=by
    intro L hL d;induction d with
    | zero =>
      intro j hd hj X v hX;obtain rfl:j=L.length:=by omega
      refine Ev.step (f:=fun k=>X (k+1) (L.map fun q=>DU q.f0 q.f1)) (fun k => ?_) (Ev.shift hX);have c1:¬ (L.length:Int)<(L.length:Int):=by omega
      simp only [dA.l1,dA.l1T,decide_eq_true_eq,c1,if_false,List.take_length]
    | succ d ih =>
      intro j hd hj X v hX;have hj':j<L.length:=by omega
      have c1:(j:Int)<(L.length:Int):=by omega
      have c2:(0:Int)≤(j:Int):=by omega
      have hw:=nx c1 c2 (by omega);refine Ev.step (fun k=>rfl) ?_;simp only [dA.l1,dA.l1T,decide_eq_true_eq,c1,c2,if_true,hw,rdP _ j hj',afP,Option.bind_some];have hlen:((L.take j).map fun q=>DU q.f0 q.f1).length+1≤5864062014805:=by simp;omega
      refine Ev.yes hlen ?_;have:=ih (j+1) (by omega) (by omega) (fun k=>X (k+1)) v (Ev.shift hX);rw [List.take_succ_eq_append_getElem hj',List.map_append] at this;exact this
  have l2:∀ (d j:Nat),(iK A B).length - j=d→j≤(iK A B).length→∀ (X:Nat→List Gn→Option (Fm × Int)) (v:Fm × Int),Ev (fun k=>X k (fM DU A B).f3) v→Ev (fun k=>dA.l2 (X k) (iK A B) ((iK A B).map fun i=>(⟨(vF A i).1,(vF B i).1⟩:P2)) (((iK A B).map fun i=>(⟨(vF A i).1,(vF B i).1⟩:P2)).length:Int) k (j:Int) (((iK A B).take j).map fun i=>⟨i,DU (vF A i).1 (vF B i).1⟩)) v:=by
    intro d;have hml:((iK A B).map fun i=>(⟨(vF A i).1,(vF B i).1⟩:P2)).length=(iK A B).length:=by simp
    induction d with
    | zero =>
      intro j hd hj X v hX;obtain rfl:j=(iK A B).length:=by omega
      refine Ev.step (f:=fun k=>X (k+1) (fM DU A B).f3) (fun k => ?_) (Ev.shift hX);have c1:¬ ((iK A B).length:Int)<((iK A B).length:Int):=by omega
      simp only [dA.l2,dA.l2T,decide_eq_true_eq,hml,c1,if_false,List.take_length];rfl
    | succ d ih =>
      intro j hd hj X v hX;have hj':j<(iK A B).length:=by omega
      have c1:(j:Int)<((iK A B).length:Int):=by omega
      have c2:(0:Int)≤(j:Int):=by omega
      have hw:=nx c1 c2 (by omega);refine Ev.step (fun k=>rfl) ?_;simp only [dA.l2,dA.l2T,decide_eq_true_eq,hml,c1,c2,if_true,hw,rdP _ j (show j<((iK A B).map fun i=>(⟨(vF A i).1,(vF B i).1⟩:P2)).length by rw [hml];exact hj'),rdI _ j hj',afP,Option.bind_some,List.getElem_map];have hlen:(((iK A B).take j).map fun i=>(⟨i,DU (vF A i).1 (vF B i).1⟩:Gn)).length+1≤4398046511104:=by simp;omega
      refine Ev.yes hlen ?_;have:=ih (j+1) (by omega) (by omega) (fun k=>X (k+1)) v (Ev.shift hX);rw [List.take_succ_eq_append_getElem hj',List.map_append,hml] at this;exact this
  have hml:(((List.range (nF A B)).map (fun (i:Nat)=>(⟨bF A (i:Int),bF B (i:Int)⟩:P2))).map fun q=>DU q.f0 q.f1)=(fM DU A B).f2:=by
    simp [fM,List.map_map,Function.comp_def]
  have hll:((((List.range (nF A B)).map (fun (i:Nat)=>(⟨bF A (i:Int),bF B (i:Int)⟩:P2)))).length:Int)=(fM DU A B).f1:=by simp [fM]
  have fin:∀ v,Ev (fun k=>(dH.f k (fM DU A B).f0 (fM DU A B).f1 (fM DU A B).f2 (fM DU A B).f3).bind fun aa=>(if (decide (aa=0))=true then ((dK.f k (fM DU A B).f0 (fM DU A B).f1 (fM DU A B).f2 (fM DU A B).f3).bind fun t16=>(some ((⟨t16.f0,t16.f1,t16.f2,t16.f3⟩:Fm),(0:Int)))) else (if (decide (aa=3))=true then some (noF,3) else some (noF,51)))) v →
      Ev (fun k=>dA.f k p c core odd p' c' fu kr) v:=fun v hv=>by
    unfold dA.f;refine Ev.bind ca (Ev.bind cb (Ev.bind c1 (Ev.no (by simp) (Ev.bind od (Ev.bind d1 (Ev.no (by simp) (Ev.bind e1 (Ev.no (by simp) ?_))))))));unfold dA.l0;have k2:=l2 (iK A B).length 0 (by omega) (by omega) (fun k ab=>(dH.f k (fM DU A B).f0 (fM DU A B).f1 (fM DU A B).f2 ab).bind fun aa=>(if (decide (aa=0))=true then ((dK.f k (fM DU A B).f0 (fM DU A B).f1 (fM DU A B).f2 ab).bind fun t16=>(some ((⟨t16.f0,t16.f1,t16.f2,t16.f3⟩:Fm),(0:Int)))) else (if (decide (aa=3))=true then some (noF,3) else some (noF,51)))) v hv;have k1:=l1 ((List.range (nF A B)).map (fun (i:Nat)=>(⟨bF A (i:Int),bF B (i:Int)⟩:P2))) (by simp;omega) _ 0 rfl (by omega) (fun k ac=>dA.l2 (fun ab=>(dH.f k (fM DU A B).f0 (fM DU A B).f1 ac ab).bind fun aa=>(if (decide (aa=0))=true then ((dK.f k (fM DU A B).f0 (fM DU A B).f1 ac ab).bind fun t16=>(some ((⟨t16.f0,t16.f1,t16.f2,t16.f3⟩:Fm),(0:Int)))) else (if (decide (aa=3))=true then some (noF,3) else some (noF,51)))) (iK A B) ((iK A B).map fun i=>(⟨(vF A i).1,(vF B i).1⟩:P2)) (((iK A B).map fun i=>(⟨(vF A i).1,(vF B i).1⟩:P2)).length:Int) k 0 []) v (by rw [hml];exact k2);simp only [hll] at k1 ⊢;exact k1
  by_cases hg:grF (fM DU A B)
  · have he:e=0:=f4.2 ⟨by omega,hg⟩
    subst he;obtain ⟨h,h1,h2⟩:=j5 (p:=(fM DU A B).f0) (c:=(fM DU A B).f1) (core:=(fM DU A B).f2) (odd:=(fM DU A B).f3) hg.s;have r1:=fin (h,0) (Ev.bind f1 (Ev.yes rfl (Ev.bind h1 (Ev.now _))));exact ⟨_,r1,fun hh=>absurd hal hh,fun _=>⟨fun hh=>absurd hg hh,fun _=>⟨h,h2,rfl⟩⟩⟩
  · have he:e=50:=by
      rcases f2 with e' | e' | e'
      · exact absurd (f4.1 e').2 hg
      · exact absurd (f3.1 e') (by omega)
      · exact e'
    subst he;have r1:=fin (noF,51) (Ev.bind f1 (Ev.no (by simp) (Ev.no (by simp) (Ev.now _))));exact ⟨_,r1,fun hh=>absurd hal hh,fun _=>⟨fun _=>rfl,fun hh=>absurd hh hg⟩⟩
theorem yI {p c p' c':Int} {core fu:List (List Sp)} {odd kr:List Gn} {A B:Fm} (ca:Ev (fun k=>dK.f k p c core odd) A) (cb:Ev (fun k=>dK.f k p' c' fu kr) B) (H:OfH A B) (hs:kS (fM DC A B).f2 (fM DC A B).f3≤60000) :
    ∃ r,Ev (fun k=>dJ.f k p c core odd p' c' fu kr) r∧OfS DC A B r:=by
  obtain ⟨r1,c1,c2,c3⟩:=tV H;have hn:=H.n;have ho:=H.o;have hil:=mX A B;unfold dJ.f;by_cases hf:mG A B
  case neg =>
    have:=c3 hf;subst this;exact ⟨_,Ev.bind ca (Ev.bind cb (Ev.bind c1 (Ev.yes (by simp) (Ev.now _)))),fun _=>rfl,fun h=>absurd h.1 hf⟩
  have:=c2 hf;subst this;obtain ⟨b1,d1,d2⟩:=l8 ((List.range (nF A B)).map (fun (i:Nat)=>(⟨bF A (i:Int),bF B (i:Int)⟩:P2))) (by simp;omega) (fun q hq=>by
    obtain ⟨i,_,rfl⟩:=List.mem_map.1 hq;exact nP H.sa _)
  obtain ⟨b2,e1,e2⟩:=l8 ((iK A B).map fun i=>(⟨(vF A i).1,(vF B i).1⟩:P2)) (by simp;omega) (fun q hq=>by
    obtain ⟨i,_,rfl⟩:=List.mem_map.1 hq;exact jL H.sa _)
  have od:=wS H;cases b1 with
  | false =>
    refine ⟨_,Ev.bind ca (Ev.bind cb (Ev.bind c1 (Ev.no (by simp) (Ev.bind od (Ev.bind d1 (Ev.yes rfl (Ev.now _))))))),fun _=>rfl,fun h => ?_⟩;exact absurd (d2.2 fun q hq=>by
      obtain ⟨i,hi,rfl⟩:=List.mem_map.1 hq;exact h.2.1 i (List.mem_range.1 hi)) (by simp)
  | true =>
  cases b2 with
  | false =>
    refine ⟨_,Ev.bind ca (Ev.bind cb (Ev.bind c1 (Ev.no (by simp) (Ev.bind od (Ev.bind d1 (Ev.no (by simp) (Ev.bind e1 (Ev.yes rfl (Ev.now _))))))))),fun _=>rfl,fun h => ?_⟩;exact absurd (e2.2 fun q hq=>by
      obtain ⟨i,hi,rfl⟩:=List.mem_map.1 hq;exact h.2.2 i hi) (by simp)
  | true =>
  have hal:kF A B:=⟨hf,fun i hi=>d2.1 rfl _ (List.mem_map.2 ⟨i,List.mem_range.2 hi,rfl⟩),fun i hi=>e2.1 rfl _ (List.mem_map.2 ⟨i,hi,rfl⟩)⟩;have m:MF (fM DC A B).f2 (fM DC A B).f3:=by
    refine ⟨fun l hl => ?_,fun g hg => ?_⟩
    · obtain ⟨i,_,rfl⟩:=List.mem_map.1 hl
      have q1:=nP H.sa (i:Int);have q2:=nP H.sb (i:Int);rcases ag9 (bF A (i:Int)) (bF B (i:Int)) with e | e | e
      · rw [e];omega
      · rw [e];omega
      · rw [e];simp
    · obtain ⟨i,_,rfl⟩:=List.mem_map.1 hg
      have q1:(vF A i).1.length≤4611686018427387904:=jL H.sa i;have q2:(vF B i).1.length≤4611686018427387904:=jL H.sb i;show (DC (vF A i).1 (vF B i).1).length≤_;rcases ag9 (vF A i).1 (vF B i).1 with e | e | e
      · rw [e];omega
      · rw [e];omega
      · rw [e];simp
  obtain ⟨n,⟨_,g2⟩,e,f1,f2,f3,f4⟩:=nM (p:=(fM DC A B).f0) (c:=(fM DC A B).f1) m (by simp [fM];omega) (by simp [fM];omega);have hne:=g2 (by omega);have l1:∀ (L:List P2),L.length≤6000→∀ (d j:Nat),L.length - j=d→j≤L.length→∀ (X:Nat→List (List Sp)→Option (Fm × Int)) (v:Fm × Int),Ev (fun k=>X k (L.map fun q=>DC q.f0 q.f1)) v→Ev (fun k=>dJ.l1 (X k) L (L.length:Int) k (j:Int) ((L.take j).map fun q=>DC q.f0 q.f1)) v:=by
    intro L hL d;induction d with
    | zero =>
      intro j hd hj X v hX;obtain rfl:j=L.length:=by omega
      refine Ev.step (f:=fun k=>X (k+1) (L.map fun q=>DC q.f0 q.f1)) (fun k => ?_) (Ev.shift hX);have c1:¬ (L.length:Int)<(L.length:Int):=by omega
      simp only [dJ.l1,dJ.l1T,decide_eq_true_eq,c1,if_false,List.take_length]
    | succ d ih =>
      intro j hd hj X v hX;have hj':j<L.length:=by omega
      have c1:(j:Int)<(L.length:Int):=by omega
      have c2:(0:Int)≤(j:Int):=by omega
      have hw:=nx c1 c2 (by omega);refine Ev.step (fun k=>rfl) ?_;simp only [dJ.l1,dJ.l1T,decide_eq_true_eq,c1,c2,if_true,hw,rdP _ j hj',afQ,Option.bind_some];have hlen:((L.take j).map fun q=>DC q.f0 q.f1).length+1≤5864062014805:=by simp;omega
      refine Ev.yes hlen ?_;have:=ih (j+1) (by omega) (by omega) (fun k=>X (k+1)) v (Ev.shift hX);rw [List.take_succ_eq_append_getElem hj',List.map_append] at this;exact this
  have l2:∀ (d j:Nat),(iK A B).length - j=d→j≤(iK A B).length→∀ (X:Nat→List Gn→Option (Fm × Int)) (v:Fm × Int),Ev (fun k=>X k (fM DC A B).f3) v→Ev (fun k=>dJ.l2 (X k) (iK A B) ((iK A B).map fun i=>(⟨(vF A i).1,(vF B i).1⟩:P2)) (((iK A B).map fun i=>(⟨(vF A i).1,(vF B i).1⟩:P2)).length:Int) k (j:Int) (((iK A B).take j).map fun i=>⟨i,DC (vF A i).1 (vF B i).1⟩)) v:=by
    intro d;have hml:((iK A B).map fun i=>(⟨(vF A i).1,(vF B i).1⟩:P2)).length=(iK A B).length:=by simp
    induction d with
    | zero =>
      intro j hd hj X v hX;obtain rfl:j=(iK A B).length:=by omega
      refine Ev.step (f:=fun k=>X (k+1) (fM DC A B).f3) (fun k => ?_) (Ev.shift hX);have c1:¬ ((iK A B).length:Int)<((iK A B).length:Int):=by omega
      simp only [dJ.l2,dJ.l2T,decide_eq_true_eq,hml,c1,if_false,List.take_length];rfl
    | succ d ih =>
      intro j hd hj X v hX;have hj':j<(iK A B).length:=by omega
      have c1:(j:Int)<((iK A B).length:Int):=by omega
      have c2:(0:Int)≤(j:Int):=by omega
      have hw:=nx c1 c2 (by omega);refine Ev.step (fun k=>rfl) ?_;simp only [dJ.l2,dJ.l2T,decide_eq_true_eq,hml,c1,c2,if_true,hw,rdP _ j (show j<((iK A B).map fun i=>(⟨(vF A i).1,(vF B i).1⟩:P2)).length by rw [hml];exact hj'),rdI _ j hj',afQ,Option.bind_some,List.getElem_map];have hlen:(((iK A B).take j).map fun i=>(⟨i,DC (vF A i).1 (vF B i).1⟩:Gn)).length+1≤4398046511104:=by simp;omega
      refine Ev.yes hlen ?_;have:=ih (j+1) (by omega) (by omega) (fun k=>X (k+1)) v (Ev.shift hX);rw [List.take_succ_eq_append_getElem hj',List.map_append,hml] at this;exact this
  have hml:(((List.range (nF A B)).map (fun (i:Nat)=>(⟨bF A (i:Int),bF B (i:Int)⟩:P2))).map fun q=>DC q.f0 q.f1)=(fM DC A B).f2:=by
    simp [fM,List.map_map,Function.comp_def]
  have hll:((((List.range (nF A B)).map (fun (i:Nat)=>(⟨bF A (i:Int),bF B (i:Int)⟩:P2)))).length:Int)=(fM DC A B).f1:=by simp [fM]
  have fin:∀ v,Ev (fun k=>(dH.f k (fM DC A B).f0 (fM DC A B).f1 (fM DC A B).f2 (fM DC A B).f3).bind fun aa=>(if (decide (aa=0))=true then ((dK.f k (fM DC A B).f0 (fM DC A B).f1 (fM DC A B).f2 (fM DC A B).f3).bind fun t16=>(some ((⟨t16.f0,t16.f1,t16.f2,t16.f3⟩:Fm),(0:Int)))) else (if (decide (aa=3))=true then some (noF,3) else some (noF,51)))) v →
      Ev (fun k=>dJ.f k p c core odd p' c' fu kr) v:=fun v hv=>by
    unfold dJ.f;refine Ev.bind ca (Ev.bind cb (Ev.bind c1 (Ev.no (by simp) (Ev.bind od (Ev.bind d1 (Ev.no (by simp) (Ev.bind e1 (Ev.no (by simp) ?_))))))));unfold dJ.l0;have k2:=l2 (iK A B).length 0 (by omega) (by omega) (fun k ab=>(dH.f k (fM DC A B).f0 (fM DC A B).f1 (fM DC A B).f2 ab).bind fun aa=>(if (decide (aa=0))=true then ((dK.f k (fM DC A B).f0 (fM DC A B).f1 (fM DC A B).f2 ab).bind fun t16=>(some ((⟨t16.f0,t16.f1,t16.f2,t16.f3⟩:Fm),(0:Int)))) else (if (decide (aa=3))=true then some (noF,3) else some (noF,51)))) v hv;have k1:=l1 ((List.range (nF A B)).map (fun (i:Nat)=>(⟨bF A (i:Int),bF B (i:Int)⟩:P2))) (by simp;omega) _ 0 rfl (by omega) (fun k ac=>dJ.l2 (fun ab=>(dH.f k (fM DC A B).f0 (fM DC A B).f1 ac ab).bind fun aa=>(if (decide (aa=0))=true then ((dK.f k (fM DC A B).f0 (fM DC A B).f1 ac ab).bind fun t16=>(some ((⟨t16.f0,t16.f1,t16.f2,t16.f3⟩:Fm),(0:Int)))) else (if (decide (aa=3))=true then some (noF,3) else some (noF,51)))) (iK A B) ((iK A B).map fun i=>(⟨(vF A i).1,(vF B i).1⟩:P2)) (((iK A B).map fun i=>(⟨(vF A i).1,(vF B i).1⟩:P2)).length:Int) k 0 []) v (by rw [hml];exact k2);simp only [hll] at k1 ⊢;exact k1
  by_cases hg:grF (fM DC A B)
  · have he:e=0:=f4.2 ⟨by omega,hg⟩
    subst he;obtain ⟨h,h1,h2⟩:=j5 (p:=(fM DC A B).f0) (c:=(fM DC A B).f1) (core:=(fM DC A B).f2) (odd:=(fM DC A B).f3) hg.s;have r1:=fin (h,0) (Ev.bind f1 (Ev.yes rfl (Ev.bind h1 (Ev.now _))));exact ⟨_,r1,fun hh=>absurd hal hh,fun _=>⟨fun hh=>absurd hg hh,fun _=>⟨h,h2,rfl⟩⟩⟩
  · have he:e=50:=by
      rcases f2 with e' | e' | e'
      · exact absurd (f4.1 e').2 hg
      · exact absurd (f3.1 e') (by omega)
      · exact e'
    subst he;have r1:=fin (noF,51) (Ev.bind f1 (Ev.no (by simp) (Ev.no (by simp) (Ev.now _))));exact ⟨_,r1,fun hh=>absurd hal hh,fun _=>⟨fun _=>rfl,fun hh=>absurd hh hg⟩⟩
theorem abJ {p c p' c':Int} {core fu:List (List Sp)} {odd kr:List Gn} {A B:Fm} (ca:Ev (fun k=>dK.f k p c core odd) A) (cb:Ev (fun k=>dK.f k p' c' fu kr) B) (H:OfH A B) (hs:kS (fM DL A B).f2 (fM DL A B).f3≤60000) :
    ∃ r,Ev (fun k=>dG.f k p c core odd p' c' fu kr) r∧OfS DL A B r:=by
  obtain ⟨r1,c1,c2,c3⟩:=tV H;have hn:=H.n;have ho:=H.o;have hil:=mX A B;unfold dG.f;by_cases hf:mG A B
  case neg =>
    have:=c3 hf;subst this;exact ⟨_,Ev.bind ca (Ev.bind cb (Ev.bind c1 (Ev.yes (by simp) (Ev.now _)))),fun _=>rfl,fun h=>absurd h.1 hf⟩
  have:=c2 hf;subst this;obtain ⟨b1,d1,d2⟩:=l8 ((List.range (nF A B)).map (fun (i:Nat)=>(⟨bF A (i:Int),bF B (i:Int)⟩:P2))) (by simp;omega) (fun q hq=>by
    obtain ⟨i,_,rfl⟩:=List.mem_map.1 hq;exact nP H.sa _)
  obtain ⟨b2,e1,e2⟩:=l8 ((iK A B).map fun i=>(⟨(vF A i).1,(vF B i).1⟩:P2)) (by simp;omega) (fun q hq=>by
    obtain ⟨i,_,rfl⟩:=List.mem_map.1 hq;exact jL H.sa _)
  have od:=wS H;cases b1 with
  | false =>
    refine ⟨_,Ev.bind ca (Ev.bind cb (Ev.bind c1 (Ev.no (by simp) (Ev.bind od (Ev.bind d1 (Ev.yes rfl (Ev.now _))))))),fun _=>rfl,fun h => ?_⟩;exact absurd (d2.2 fun q hq=>by
      obtain ⟨i,hi,rfl⟩:=List.mem_map.1 hq;exact h.2.1 i (List.mem_range.1 hi)) (by simp)
  | true =>
  cases b2 with
  | false =>
    refine ⟨_,Ev.bind ca (Ev.bind cb (Ev.bind c1 (Ev.no (by simp) (Ev.bind od (Ev.bind d1 (Ev.no (by simp) (Ev.bind e1 (Ev.yes rfl (Ev.now _))))))))),fun _=>rfl,fun h => ?_⟩;exact absurd (e2.2 fun q hq=>by
      obtain ⟨i,hi,rfl⟩:=List.mem_map.1 hq;exact h.2.2 i hi) (by simp)
  | true =>
  have hal:kF A B:=⟨hf,fun i hi=>d2.1 rfl _ (List.mem_map.2 ⟨i,List.mem_range.2 hi,rfl⟩),fun i hi=>e2.1 rfl _ (List.mem_map.2 ⟨i,hi,rfl⟩)⟩;have m:MF (fM DL A B).f2 (fM DL A B).f3:=by
    refine ⟨fun l hl => ?_,fun g hg => ?_⟩
    · obtain ⟨i,_,rfl⟩:=List.mem_map.1 hl
      have q1:=nP H.sa (i:Int);have q2:=nP H.sb (i:Int);rcases aha (bF A (i:Int)) (bF B (i:Int)) with e | e | e
      · rw [e];omega
      · rw [e];omega
      · rw [e];simp
    · obtain ⟨i,_,rfl⟩:=List.mem_map.1 hg
      have q1:(vF A i).1.length≤4611686018427387904:=jL H.sa i;have q2:(vF B i).1.length≤4611686018427387904:=jL H.sb i;show (DL (vF A i).1 (vF B i).1).length≤_;rcases aha (vF A i).1 (vF B i).1 with e | e | e
      · rw [e];omega
      · rw [e];omega
      · rw [e];simp
  obtain ⟨n,⟨_,g2⟩,e,f1,f2,f3,f4⟩:=nM (p:=(fM DL A B).f0) (c:=(fM DL A B).f1) m (by simp [fM];omega) (by simp [fM];omega);have hne:=g2 (by omega);have l1:∀ (L:List P2),L.length≤6000→∀ (d j:Nat),L.length - j=d→j≤L.length→∀ (X:Nat→List (List Sp)→Option (Fm × Int)) (v:Fm × Int),Ev (fun k=>X k (L.map fun q=>DL q.f0 q.f1)) v→Ev (fun k=>dG.l1 (X k) L (L.length:Int) k (j:Int) ((L.take j).map fun q=>DL q.f0 q.f1)) v:=by
    intro L hL d;induction d with
    | zero =>
      intro j hd hj X v hX;obtain rfl:j=L.length:=by omega
      refine Ev.step (f:=fun k=>X (k+1) (L.map fun q=>DL q.f0 q.f1)) (fun k => ?_) (Ev.shift hX);have c1:¬ (L.length:Int)<(L.length:Int):=by omega
      simp only [dG.l1,dG.l1T,decide_eq_true_eq,c1,if_false,List.take_length]
    | succ d ih =>
      intro j hd hj X v hX;have hj':j<L.length:=by omega
      have c1:(j:Int)<(L.length:Int):=by omega
      have c2:(0:Int)≤(j:Int):=by omega
      have hw:=nx c1 c2 (by omega);refine Ev.step (fun k=>rfl) ?_;simp only [dG.l1,dG.l1T,decide_eq_true_eq,c1,c2,if_true,hw,rdP _ j hj',afR,Option.bind_some];have hlen:((L.take j).map fun q=>DL q.f0 q.f1).length+1≤5864062014805:=by simp;omega
      refine Ev.yes hlen ?_;have:=ih (j+1) (by omega) (by omega) (fun k=>X (k+1)) v (Ev.shift hX);rw [List.take_succ_eq_append_getElem hj',List.map_append] at this;exact this
  have l2:∀ (d j:Nat),(iK A B).length - j=d→j≤(iK A B).length→∀ (X:Nat→List Gn→Option (Fm × Int)) (v:Fm × Int),Ev (fun k=>X k (fM DL A B).f3) v→Ev (fun k=>dG.l2 (X k) (iK A B) ((iK A B).map fun i=>(⟨(vF A i).1,(vF B i).1⟩:P2)) (((iK A B).map fun i=>(⟨(vF A i).1,(vF B i).1⟩:P2)).length:Int) k (j:Int) (((iK A B).take j).map fun i=>⟨i,DL (vF A i).1 (vF B i).1⟩)) v:=by
    intro d;have hml:((iK A B).map fun i=>(⟨(vF A i).1,(vF B i).1⟩:P2)).length=(iK A B).length:=by simp
    induction d with
    | zero =>
      intro j hd hj X v hX;obtain rfl:j=(iK A B).length:=by omega
      refine Ev.step (f:=fun k=>X (k+1) (fM DL A B).f3) (fun k => ?_) (Ev.shift hX);have c1:¬ ((iK A B).length:Int)<((iK A B).length:Int):=by omega
      simp only [dG.l2,dG.l2T,decide_eq_true_eq,hml,c1,if_false,List.take_length];rfl
    | succ d ih =>
      intro j hd hj X v hX;have hj':j<(iK A B).length:=by omega
      have c1:(j:Int)<((iK A B).length:Int):=by omega
      have c2:(0:Int)≤(j:Int):=by omega
      have hw:=nx c1 c2 (by omega);refine Ev.step (fun k=>rfl) ?_;simp only [dG.l2,dG.l2T,decide_eq_true_eq,hml,c1,c2,if_true,hw,rdP _ j (show j<((iK A B).map fun i=>(⟨(vF A i).1,(vF B i).1⟩:P2)).length by rw [hml];exact hj'),rdI _ j hj',afR,Option.bind_some,List.getElem_map];have hlen:(((iK A B).take j).map fun i=>(⟨i,DL (vF A i).1 (vF B i).1⟩:Gn)).length+1≤4398046511104:=by simp;omega
      refine Ev.yes hlen ?_;have:=ih (j+1) (by omega) (by omega) (fun k=>X (k+1)) v (Ev.shift hX);rw [List.take_succ_eq_append_getElem hj',List.map_append,hml] at this;exact this
  have hml:(((List.range (nF A B)).map (fun (i:Nat)=>(⟨bF A (i:Int),bF B (i:Int)⟩:P2))).map fun q=>DL q.f0 q.f1)=(fM DL A B).f2:=by
    simp [fM,List.map_map,Function.comp_def]
  have hll:((((List.range (nF A B)).map (fun (i:Nat)=>(⟨bF A (i:Int),bF B (i:Int)⟩:P2)))).length:Int)=(fM DL A B).f1:=by simp [fM]
  have fin:∀ v,Ev (fun k=>(dH.f k (fM DL A B).f0 (fM DL A B).f1 (fM DL A B).f2 (fM DL A B).f3).bind fun aa=>(if (decide (aa=0))=true then ((dK.f k (fM DL A B).f0 (fM DL A B).f1 (fM DL A B).f2 (fM DL A B).f3).bind fun t16=>(some ((⟨t16.f0,t16.f1,t16.f2,t16.f3⟩:Fm),(0:Int)))) else (if (decide (aa=3))=true then some (noF,3) else some (noF,51)))) v →
      Ev (fun k=>dG.f k p c core odd p' c' fu kr) v:=fun v hv=>by
    unfold dG.f;refine Ev.bind ca (Ev.bind cb (Ev.bind c1 (Ev.no (by simp) (Ev.bind od (Ev.bind d1 (Ev.no (by simp) (Ev.bind e1 (Ev.no (by simp) ?_))))))));unfold dG.l0;have k2:=l2 (iK A B).length 0 (by omega) (by omega) (fun k ab=>(dH.f k (fM DL A B).f0 (fM DL A B).f1 (fM DL A B).f2 ab).bind fun aa=>(if (decide (aa=0))=true then ((dK.f k (fM DL A B).f0 (fM DL A B).f1 (fM DL A B).f2 ab).bind fun t16=>(some ((⟨t16.f0,t16.f1,t16.f2,t16.f3⟩:Fm),(0:Int)))) else (if (decide (aa=3))=true then some (noF,3) else some (noF,51)))) v hv;have k1:=l1 ((List.range (nF A B)).map (fun (i:Nat)=>(⟨bF A (i:Int),bF B (i:Int)⟩:P2))) (by simp;omega) _ 0 rfl (by omega) (fun k ac=>dG.l2 (fun ab=>(dH.f k (fM DL A B).f0 (fM DL A B).f1 ac ab).bind fun aa=>(if (decide (aa=0))=true then ((dK.f k (fM DL A B).f0 (fM DL A B).f1 ac ab).bind fun t16=>(some ((⟨t16.f0,t16.f1,t16.f2,t16.f3⟩:Fm),(0:Int)))) else (if (decide (aa=3))=true then some (noF,3) else some (noF,51)))) (iK A B) ((iK A B).map fun i=>(⟨(vF A i).1,(vF B i).1⟩:P2)) (((iK A B).map fun i=>(⟨(vF A i).1,(vF B i).1⟩:P2)).length:Int) k 0 []) v (by rw [hml];exact k2);simp only [hll] at k1 ⊢;exact k1
  by_cases hg:grF (fM DL A B)
  · have he:e=0:=f4.2 ⟨by omega,hg⟩
    subst he;obtain ⟨h,h1,h2⟩:=j5 (p:=(fM DL A B).f0) (c:=(fM DL A B).f1) (core:=(fM DL A B).f2) (odd:=(fM DL A B).f3) hg.s;have r1:=fin (h,0) (Ev.bind f1 (Ev.yes rfl (Ev.bind h1 (Ev.now _))));exact ⟨_,r1,fun hh=>absurd hal hh,fun _=>⟨fun hh=>absurd hg hh,fun _=>⟨h,h2,rfl⟩⟩⟩
  · have he:e=50:=by
      rcases f2 with e' | e' | e'
      · exact absurd (f4.1 e').2 hg
      · exact absurd (f3.1 e') (by omega)
      · exact e'
    subst he;have r1:=fin (noF,51) (Ev.bind f1 (Ev.no (by simp) (Ev.no (by simp) (Ev.now _))));exact ⟨_,r1,fun hh=>absurd hal hh,fun _=>⟨fun _=>rfl,fun hh=>absurd hh hg⟩⟩
end Go.Proofs.YtcomnjodjijcmaaGreat.Q
namespace Go.Proofs.YtcomnjodjijcmaaGreat.Q
set_option linter.unusedVariables false
set_option linter.unusedSimpArgs false
open Go.RowKit Go.Proofs.YtcomnjodjijcmaaGreatW.dz Go.Proofs.YtcomnjodjijcmaaGreatW.eD M R P
section
theorem abK {l:List Int} {x:Int}:x∈jU l↔x∈l:=(agY l).mem_iff
theorem oQ (zs:List Int) (j:Nat) (h:j<zs.length):zs.toArray[j]! = zs[j]:=by simp [h]
theorem zQ {zs:List Int} (h:zs.Pairwise (· ≤ ·)):(iN zs).Pairwise (· < ·):=by
  unfold iN Lib.compact Lib.compactUpTo;rw [List.pairwise_map];refine List.Pairwise.imp_of_mem (R:=(· < ·)) (fun {i j} hi hj hij => ?_) (List.pairwise_lt_range.filter _);have hi':=List.mem_range.1 (List.mem_filter.1 hi).1;obtain ⟨hj1,hj2⟩:=List.mem_filter.1 hj;have hj':=List.mem_range.1 hj1;rw [oQ zs i hi',oQ zs j hj'];have hk:zs.toArray[j]! ≠ zs.toArray[j - 1]! := by
    have:j=0∨zs.toArray[j]! ≠ zs.toArray[j - 1]! := of_decide_eq_true hj2;rcases this with e | e
    · omega
    · exact e
  rw [oQ zs j hj',oQ zs (j - 1) (by omega)] at hk;have h1:zs[j - 1]'(by omega)≤zs[j]:=List.pairwise_iff_getElem.1 h (j - 1) j (by omega) hj' (by omega);have h2:zs[i]≤zs[j - 1]'(by omega):=by
    rcases Nat.lt_or_ge i (j - 1) with g | g
    · exact List.pairwise_iff_getElem.1 h i (j - 1) hi' (by omega) g
    · have:i=j - 1:=by omega
      subst this;exact Int.le_refl _
  omega
theorem wT {zs:List Int} {x:Int}:x∈iN zs↔x∈zs:=by
  unfold iN Lib.compact Lib.compactUpTo;rw [List.mem_map];constructor
  · rintro ⟨j,hj,rfl⟩
    have hj':=List.mem_range.1 (List.mem_filter.1 hj).1;rw [oQ zs j hj'];exact List.getElem_mem hj'
  · intro hx
    obtain ⟨j0,hj0,e0⟩:=List.mem_iff_getElem.1 hx;obtain ⟨j,⟨hj,e⟩,hm⟩:=least (P:=fun j=>∃ h:j<zs.length,zs[j]=x) j0 ⟨hj0,e0⟩;refine ⟨j,List.mem_filter.2 ⟨List.mem_range.2 hj,decide_eq_true ?_⟩,by rw [oQ zs j hj];exact e⟩;rcases Nat.eq_zero_or_pos j with g | g
    · exact .inl g
    · right
      rw [oQ zs j hj,oQ zs (j - 1) (by omega),e];exact fun e2=>hm (j - 1) (by omega) ⟨by omega,e2.symm⟩
theorem yJ:∀ {a b:List Int},a.Pairwise (· < ·)→b.Pairwise (· < ·)→(∀ x,x∈a↔x∈b)→a=b
  | [],[],_,_,_=>rfl
  | [],y :: b,_,_,h=>absurd ((h y).2 (by simp)) (by simp)
  | x :: a,[],_,_,h=>absurd ((h x).1 (by simp)) (by simp)
  | x :: a,y :: b,ha,hb,h=>by
    obtain ⟨h1,h2⟩:=List.pairwise_cons.1 ha;obtain ⟨h3,h4⟩:=List.pairwise_cons.1 hb;have hxy:x=y:=by
      rcases List.mem_cons.1 ((h x).1 (by simp)) with e | e
      · exact e
      · rcases List.mem_cons.1 ((h y).2 (by simp)) with e' | e'
        · exact e'.symm
        · have:=h3 x e;have:=h1 y e';omega
    subst hxy;rw [yJ h2 h4 (fun z => ?_)];have hz:=h z;simp only [List.mem_cons] at hz;constructor
    · intro hm
      rcases hz.1 (.inr hm) with e | e
      · have:=h1 z hm;omega
      · exact e
    · intro hm
      rcases hz.2 (.inr hm) with e | e
      · have:=h3 z hm;omega
      · exact e
theorem yK (A B:Fm):(iK A B).Pairwise (· < ·):=zQ (ade _)
theorem qE {A B:Fm} {i:Int}:i∈iK A B↔(∃ g∈A.f3,g.f0=i)∨∃ g∈B.f3,g.f0=i:=by
  unfold iK;rw [wT,abK,List.mem_map];constructor
  · rintro ⟨g,hg,rfl⟩
    rcases List.mem_append.1 hg with h | h
    · exact .inl ⟨g,h,rfl⟩
    · exact .inr ⟨g,h,rfl⟩
  · rintro (⟨g,hg,rfl⟩ | ⟨g,hg,rfl⟩)
    · exact ⟨g,List.mem_append_left _ hg,rfl⟩
    · exact ⟨g,List.mem_append_right _ hg,rfl⟩
def gF (A:Fm) (i:Int):List Sp:=gT A.f0 A.f1 A.f2 A.f3 i
def cnF (A:Fm):Prop:=Can A.f0 A.f1 A.f2 A.f3
theorem kI {A:Fm} {i:Int} (h:∀ g∈A.f3,g.f0≠i):gF A i=bF A i:=by
  unfold gF bF;rw [kH (iT.2 h),nN]
theorem rO {A B:Fm} (a:cnF A) (b:cnF B) (eq:∀ i,gF A i=gF B i):A=B:=by
  have key:=aeM a b (x:=1099511627776) (L:=2*((B.f2.length*A.f2.length:Nat):Int)+A.f2.length+B.f2.length) (by omega) (by omega) (by omega) (fun i h1 h2=>by
    have:=eq i;rw [kI (fun g hg e=>by have:=(a.s.hidx g hg).2;omega),kI (fun g hg e=>by have:=(b.s.hidx g hg).2;omega)] at this;exact this) (fun i _=>j6 (eq i))
  obtain ⟨e0,e1,e2,e3⟩:=key;cases A;cases B;simp only at e0 e1 e2 e3;subst e0;subst e1;subst e2;subst e3;rfl
theorem oD:cnF noF:=⟨⟨rfl,Int.le_refl _,by decide,by simp [noF],by simp [noF],by simp [noF],by simp [noF],by simp [noF],by simp [noF],by simp [noF]⟩,fun d h=>by simp [noF] at h,fun h=>absurd rfl h,fun g hg=>by simp [noF] at hg⟩
theorem qF {A:Fm} (h:A.f2=[]) (i:Int):bF A i=[]:=abD h
theorem adG {a b:Nat} (ha:a≠0):a ∣ rn a b:=by
  unfold rn;rw [if_neg ha];split
  · exact Nat.dvd_refl _
  · exact Nat.dvd_lcm_left a b
theorem afS {A B:Fm} (h:sfF A):A.f2≠[]→Stp (bF A) (nF A B) (tF A B):=fun hne=>by
  have hl:A.f2.length≠0:=fun e=>hne (List.length_eq_zero_iff.1 e);have s:=wR (kE h (by omega)) (nF A B / A.f2.length);have e1:nF A B / A.f2.length*A.f2.length=nF A B:=Nat.div_mul_cancel (adG hl);have e2:((nF A B / A.f2.length:Nat):Int)*A.f0=tF A B:=by
    unfold tF rt;rw [if_neg hl,Int.mul_comm];rfl
  rw [e1,e2] at s;exact s
theorem abL {B:Int→List Sp} (h:∀ i,B i=[]) (n:Nat) (t:Int):Stp B n t:=fun i=>by rw [h,h];rfl
theorem abM {A B:Fm} (ha:sfF A) (hb:sfF B) (h:A.f2=[]):tF A B=tF B A:=by
  have h0:A.f2.length=0:=by rw [h];rfl
  have q0:A.f0=0:=ha.hz.1 (by rw [ha.hc,h0];rfl);by_cases hB:B.f2.length=0
  · have q1:B.f0=0:=hb.hz.1 (by rw [hb.hc,hB];rfl)
    unfold tF rt;rw [if_pos h0,if_pos hB,q0,q1]
  · unfold tF rt rn
    rw [if_pos h0,if_neg hB,if_neg hB,if_pos h0,Nat.div_self (by omega)];simp
theorem adf {A B:Fm} (ha:sfF A) (hb:sfF B) (hf:mG A B):Stp (bF A) (nF A B) (tF A B)∧Stp (bF B) (nF A B) (tF A B):=by
  constructor
  · by_cases e:A.f2=[]
    · exact abL (qF e) _ _
    · exact afS ha e
  · by_cases e:B.f2=[]
    · exact abL (qF e) _ _
    · have:=afS (B:=A) hb e
      rw [oC B A] at this;have et:tF B A=tF A B:=by
        rcases hf with g | g | g
        · exact (abM ha hb g).symm
        · exact absurd g e
        · exact g.symm
      rwa [et] at this
theorem abN {a b:Nat} (h:rn a b=0):a=0∧b=0:=by
  unfold rn at h;split at h
  · exact ⟨by assumption,h⟩
  · split at h
    · exact ⟨h,by assumption⟩
    · have:=Nat.lcm_pos (m:=a) (n:=b) (by omega) (by omega)
      omega
structure vN (D:List Sp→List Sp→List Sp):Prop where
  one:oneOf D
  sh:∀ n x y,D (x.map (eO n)) (y.map (eO n))=(D x y).map (eO n)
theorem qQ:vN DU:=⟨ag8,fun n x y=>by
  unfold DU;by_cases h:x=[]
  · rw [if_pos h,if_pos (by rw [h];rfl)]
  · rw [if_neg h,if_neg (by simpa using h)]⟩
theorem nQ:vN DC:=⟨ag9,fun n x y=>by
  unfold DC;by_cases h:y=[]
  · rw [if_pos h,if_pos (by rw [h];rfl)];rfl
  · rw [if_neg h,if_neg (by simpa using h)]⟩
theorem vI:vN DL:=⟨aha,fun n x y=>by
  unfold DL;by_cases h:y=[]
  · rw [if_pos h,if_pos (by rw [h];rfl)]
  · rw [if_neg h,if_neg (by simpa using h)];rfl⟩
theorem vN.nil {D:List Sp→List Sp→List Sp} (h:vN D):D [] []=[]:=by
  rcases h.one [] [] with e | e | e <;> exact e
theorem vJ {D:List Sp→List Sp→List Sp} (hD:vN D) {A B:Fm} (ha:sfF A) (hb:sfF B) (hf:mG A B) (i:Int):bF (fM D A B) i=D (bF A i) (bF B i):=by
  by_cases hn:nF A B=0
  · obtain ⟨e1,e2⟩:=abN hn
    have z1:A.f2=[]:=List.length_eq_zero_iff.1 e1;have z2:B.f2=[]:=List.length_eq_zero_iff.1 e2;rw [qF z1,qF z2,hD.nil];refine qF ?_ i;show (List.range (nF A B)).map _=[];rw [hn];rfl
  · obtain ⟨s1,s2⟩:=adf ha hb hf
    have q1:=Int.emod_nonneg i (show (nF A B:Int)≠0 by omega);have q2:=Int.emod_lt_of_pos i (show (0:Int)<(nF A B:Int) by omega);have q3:i % (nF A B:Int)+i / (nF A B:Int)*(nF A B:Int)=i:=by
      have:=Int.emod_add_mul_ediv i (nF A B:Int);rw [Int.mul_comm] at this;exact this
    have e1:=tO s1 (i % (nF A B:Int)) (i / (nF A B:Int));have e2:=tO s2 (i % (nF A B:Int)) (i / (nF A B:Int));rw [q3] at e1 e2;rw [e1,e2,hD.sh];show (fO (nF A B:Int) ((List.range (nF A B)).map (fun (i:Nat)=>D (bF A (i:Int)) (bF B (i:Int)))) i).map (eO (i / (nF A B:Int)*tF A B))=_;unfold fO;rw [if_neg (by omega)];have hlt:(i % (nF A B:Int)).toNat<nF A B:=by omega
    have hco:(((i % (nF A B:Int)).toNat:Nat):Int)=i % (nF A B:Int):=by omega
    rw [List.getD_eq_getElem?_getD,List.getElem?_map,List.getElem?_range hlt];simp only [Option.map_some,Option.getD_some,hco]
theorem aeO {D:List Sp→List Sp→List Sp} {A B:Fm} {i:Int} (hi:i∈iK A B):iW (fM D A B).f3 i=some (D (vF A i).1 (vF B i).1):=by
  have hu:(fM D A B).f3.Pairwise (fun a b=>a.f0<b.f0):=by
    show ((iK A B).map fun i=>(⟨i,D (vF A i).1 (vF B i).1⟩:Gn)).Pairwise _;rw [List.pairwise_map];exact yK A B
  exact kR hu (g:=⟨i,D (vF A i).1 (vF B i).1⟩) (List.mem_map.2 ⟨i,hi,rfl⟩)
theorem rP {D:List Sp→List Sp→List Sp} (hD:vN D) {A B:Fm} (ha:sfF A) (hb:sfF B) (hf:mG A B) (va:∀ i∈iK A B,(vF A i).1=gF A i) (vb:∀ i∈iK A B,(vF B i).1=gF B i) (i:Int):gF (fM D A B) i=D (gF A i) (gF B i):=by
  by_cases hi:i∈iK A B
  · have:=aeO (D:=D) hi
    have e:gF (fM D A B) i=D (vF A i).1 (vF B i).1:=mV this;rw [e,va i hi,vb i hi]
  · have h1:∀ g∈A.f3,g.f0≠i:=fun g hg e=>hi (qE.2 (.inl ⟨g,hg,e⟩))
    have h2:∀ g∈B.f3,g.f0≠i:=fun g hg e=>hi (qE.2 (.inr ⟨g,hg,e⟩));have h3:∀ g∈(fM D A B).f3,g.f0≠i:=fun g hg e=>by
      obtain ⟨j,hj,rfl⟩:=List.mem_map.1 hg;exact hi (e ▸ hj)
    rw [kI h1,kI h2,kI h3,vJ hD ha hb hf]
end
end Go.Proofs.YtcomnjodjijcmaaGreat.Q
namespace Go.Proofs.YtcomnjodjijcmaaGreat.Q
set_option linter.unusedVariables false
set_option linter.unusedSimpArgs false
open Go.RowKit Go.Proofs.YtcomnjodjijcmaaGreatW.dz Go.Proofs.YtcomnjodjijcmaaGreatW.eD M R P
section
variable {p c:Int} {core:List (List Sp)} {odd:List Gn}
theorem mW.abP (w:mW p c core odd) {i:Int} (hi : -6000≤i∧i≤6000):jm p c core odd i=(gT p c core odd i,0):=by
  by_cases hz:fs c core odd i=[]
  · have e:gT p c core odd i=[]:=by unfold gT;rw [hz];rfl
    rw [lV,if_pos (by unfold inR;omega),if_pos e,e]
  · exact w.ok.s.ou (w.ex hi hz)
theorem mW.bare (w:mW p c core odd) {i:Int} (hi:100<i):gT p c core odd i=bT p c core i:=by
  rw [← nN];exact kH (iT.2 (fun g hg e=>by have:=(w.ho g hg).1;omega))
end
end Go.Proofs.YtcomnjodjijcmaaGreat.Q

/- Lemmas for laws of chapter 7: what the functions that they reach compute. No condition of its own. -/
import Derived.Test.YtcomnjodjijcmaaGreatYD18
namespace Go.Proofs.YtcomnjodjijcmaaGreat.Q
set_option linter.unusedVariables false
set_option linter.unusedSimpArgs false
open Go.RowKit Go.Proofs.YtcomnjodjijcmaaGreatW.dA Go.Proofs.YtcomnjodjijcmaaGreatW.eD M R P
section
def rn (a b:Nat):Nat:=if a=0 then b else if b=0 then a else Nat.lcm a b
def rt (p:Int) (a:Nat) (p':Int) (b:Nat):Int:=if a=0 then p' else p*((rn a b / a:Nat):Int)
theorem ahP:∀ (b a:Nat),∃ K,∀ k,K≤k→P.fZ.l0 k (a:Int) (b:Int)=some ((Nat.gcd a b:Nat):Int):=by
  intro b;induction b using Nat.strongRecOn with
  | ind b ih =>
    intro a;by_cases hb:b=0
    · subst hb
      refine ⟨1,fun k hk => ?_⟩;obtain ⟨k,rfl⟩:∃ j,k=j+1:=⟨k - 1,by omega⟩;simp [P.fZ.l0]
    · obtain ⟨K,hK⟩:=ih (a % b) (Nat.mod_lt _ (by omega)) b
      refine ⟨K+1,fun k hk => ?_⟩;obtain ⟨k,rfl⟩:∃ j,k=j+1:=⟨k - 1,by omega⟩;have h0:¬ ((b:Int)=0):=by omega
      have e:Int.tmod (a:Int) (b:Int)=((a % b:Nat):Int):=rfl;simp only [P.fZ.l0,if_neg h0,e];rw [hK k (by omega),Nat.gcd_comm a b,Nat.gcd_rec b a,Nat.gcd_comm b]
theorem lcm_div (a b:Nat):Nat.lcm a b=a / Nat.gcd a b*b:=by
  unfold Nat.lcm;rw [Nat.mul_comm a b,Nat.mul_div_assoc _ (Nat.gcd_dvd_left a b),Nat.mul_comm]
theorem zF {a b:Int} (h0:0≤a*b) (h1:a*b≤1099511627776):zm a b=(a*b,0):=by
  unfold zm;rw [if_pos (by omega)]
theorem agr (a b:Nat):Ev (fun k=>R.fZ.f k (a:Int) (b:Int)) ((Nat.gcd a b:Nat):Int):=by
  obtain ⟨K,hK⟩:=ahP b a;refine ⟨K,fun k hk => ?_⟩;show (if 0≤(a:Int)∧0≤(b:Int) then P.fZ.l0 k (a:Int) (b:Int) else none)=_;rw [if_pos (by omega)];exact hK k hk
end
variable [Inhabited WT]
variable {p c p' c':Int} {core fq:List (List Sp)} {odd jA:List Gn}
theorem ags (a b:Nat) (ha:1≤a∧a≤6000) (hb:1≤b∧b≤6000):Ev (fun k=>jq.f k (a:Int) (b:Int)) (((Nat.lcm a b:Nat):Int),0):=by
  have sa:∀ k,iD.f k (a:Int)=some (a:Int):=fun k=>by rw [zx k _ (by omega) (by omega),if_neg (by omega)]
  have sb:∀ k,iD.f k (b:Int)=some (b:Int):=fun k=>by rw [zx k _ (by omega) (by omega),if_neg (by omega)]
  have hg:1≤Nat.gcd a b:=Nat.gcd_pos_of_pos_left _ (by omega);have hle:a / Nat.gcd a b≤6000:=Nat.le_trans (Nat.div_le_self _ _) ha.2;have hpr:a / Nat.gcd a b*b≤6000*6000:=Nat.mul_le_mul hle hb.2;have hd:Int.tdiv (a:Int) ((Nat.gcd a b:Nat):Int)=((a / Nat.gcd a b:Nat):Int):=rfl;unfold jq.f;simp only [sa,sb,Option.bind_some,decide_eq_true_eq];refine Ev.no (by omega) (Ev.no (by omega) (Ev.bind (agr a b) (Ev.no (by omega) ?_)));refine Ev.congr (f:=fun _=>some (((Nat.lcm a b:Nat):Int),(0:Int))) (fun k => ?_) (Ev.now _);have e1:wC .u64 (Int.tdiv (a:Int) ((Nat.gcd a b:Nat):Int))=((a / Nat.gcd a b:Nat):Int):=by
    rw [hd];generalize a / Nat.gcd a b=q at hle;exact uJ (by omega) (by omega)
  have e2:((a / Nat.gcd a b:Nat):Int)*(b:Int)=((Nat.lcm a b:Nat):Int):=by rw [lcm_div];simp
  have e3:((Nat.lcm a b:Nat):Int)≤36000000:=by rw [lcm_div];omega
  simp only [e1];rw [abX k _ _ (by generalize a / Nat.gcd a b=q at hle;omega) (by omega),e2];have e4:((Nat.lcm a b:Nat):Int) / 18446744073709551616=0:=by omega
  have e5:((Nat.lcm a b:Nat):Int) % 18446744073709551616=((Nat.lcm a b:Nat):Int):=by omega
  simp only [e4,e5,Option.bind_some];rw [zy k _ _ (by omega),if_neg (by simp),if_neg (by simp),if_pos (by omega)];rfl
theorem rM (h:SF p c core odd) (h':SF p' c' fq jA) (hn:rn core.length fq.length≤6000) (ht:rt p core.length p' fq.length≤1099511627776) :
    Ev (fun k=>dU.f k p c core odd p' c' fq jA) (((rn core.length fq.length:Nat):Int),rt p core.length p' fq.length,0):=by
  have hc:=h.hc;have hc':=h'.hc;have l1:=h.hl;have l2:=h'.hl;have p0:=h.hp0;have p0':=h'.hp0;have z:=h.hz;have z':=h'.hz;subst hc;subst hc';unfold dU.f;simp only [decide_eq_true_eq];by_cases ha:core.length=0
  · have en:rn core.length fq.length=fq.length:=by unfold rn;rw [if_pos ha]
    have et:rt p core.length p' fq.length=p':=by unfold rt;rw [if_pos ha]
    rw [en,et];rw [en] at hn;rw [et] at ht;refine Ev.no (by omega) ?_;have hm:mx (core.length:Int) (fq.length:Int)=(fq.length:Int):=by unfold mx;split <;> omega
    unfold dU.l0;simp only [decide_eq_true_eq,hm];refine Ev.no (by omega) ?_;by_cases hb:fq.length=0
    · refine Ev.yes (by omega) ?_
      rw [hb,z'.1 (by omega)];exact Ev.now _
    · refine Ev.no (by omega) (Ev.yes (by omega) (Ev.no (by omega) ?_))
      have e1:wq (Int.tdiv (fq.length:Int) (fq.length:Int))=1:=by rw [Int.tdiv_self (by omega)];exact iX (by omega) (by omega)
      rw [e1];refine Ev.bind (zA p' 1 (by omega) (by omega)) ?_;rw [zF (by omega) (by omega),Int.mul_one];exact Ev.no (by simp) (Ev.no (by omega) (Ev.now _))
  · have et:rt p core.length p' fq.length=p*((rn core.length fq.length / core.length:Nat):Int):=by unfold rt;rw [if_neg ha]
    have hnn:1≤rn core.length fq.length:=by
      unfold rn;rw [if_neg ha];split
      · omega
      · exact Nat.lcm_pos (by omega) (by omega)
    have fin:∀ n:Nat,n=rn core.length fq.length→Ev (fun k=>dU.l0 (fun _ _ _ _ _ _ _ _=>some ((0:Int),(0:Int),(3:Int))) (fun _ _ _ _ _ _ _ _=>some (0,0,0)) (fun _ _ _ _ _ _ _ _=>some (0,0,20)) (fun a b _ _ _ _ _ _ _ _=>some (a,b,0)) (fun _ _ _ _ _ _ _ _=>some (0,0,20)) (fun a b _ _ _ _ _ _ _ _=>some (a,b,0)) k (n:Int) p (core.length:Int) core odd p' (fq.length:Int) fq jA) (((rn core.length fq.length:Nat):Int),rt p core.length p' fq.length,0):=by
      rintro n rfl;unfold dU.l0;simp only [decide_eq_true_eq];refine Ev.no (by omega) (Ev.no (by omega) (Ev.no (by omega) (Ev.no (by omega) ?_)));have hq:rn core.length fq.length / core.length≤6000:=Nat.le_trans (Nat.div_le_self _ _) hn;have e1:wq (Int.tdiv ((rn core.length fq.length:Nat):Int) (core.length:Int))=((rn core.length fq.length / core.length:Nat):Int):=by
        rw [show Int.tdiv ((rn core.length fq.length:Nat):Int) (core.length:Int)=((rn core.length fq.length / core.length:Nat):Int) from rfl];generalize rn core.length fq.length / core.length=q at hq ⊢;exact iX (by omega) (by omega)
      rw [e1];have hp1:=h.hp1;rw [et] at ht ⊢;generalize rn core.length fq.length / core.length=q at hq ht ⊢;refine Ev.bind (zA p _ (by omega) (by omega)) ?_;rw [zF (Int.mul_nonneg p0 (by omega)) ht];exact Ev.no (by simp) (Ev.no (by omega) (Ev.now _))
    refine Ev.yes (by omega) ?_;by_cases hb:fq.length=0
    · refine Ev.no (by omega) ?_
      have hm:mx (core.length:Int) (fq.length:Int)=(core.length:Int):=by unfold mx;split <;> omega
      rw [hm];exact fin core.length (by unfold rn;rw [if_neg ha,if_pos hb])
    · refine Ev.yes (by omega) (Ev.bind (ags core.length fq.length (by omega) (by omega)) ?_)
      exact fin _ (by unfold rn;rw [if_neg ha,if_neg hb])
theorem zG (h:SF p c core odd) (i:Int) (hi : -6000≤i∧i≤6000) (hp:p≤100000000) (hm:∀ s∈bT p c core i,-1099511627776≤s.f0∧s.f1≤1099511627776):Ev (fun k=>gN.f k p c core odd i) (bT p c core i,0):=by
  have hc:=h.hc;have p0:=h.hp0;unfold gN.f;simp only [decide_eq_true_eq];by_cases hz:c=0
  · refine Ev.yes hz ?_
    have:bT p c core i=[]:=by unfold bT gJ;rw [if_pos hz];rfl
    rw [this];exact Ev.now _
  · have c0:0<c:=by omega
    have hl:=h.hl;have q1:=Int.emod_nonneg i hz;have q2:=Int.emod_lt_of_pos i c0;have hd:=ahO hi c0;have hmu : -6000*100000000≤i / c*p∧i / c*p≤6000*100000000:=by
      constructor
      · have h1 : -6000*p≤i / c*p:=Int.mul_le_mul_of_nonneg_right hd.1 p0
        omega
      · have h1:i / c*p≤6000*p:=Int.mul_le_mul_of_nonneg_right hd.2 p0
        omega
    have hmv:zm (i / c) p=(i / c*p,0):=by unfold zm;rw [if_pos (by omega)]
    have hj:(i % c).toNat<core.length:=by omega
    have hrd:gL core (i % c)=gJ c core i:=by
      unfold gJ;rw [if_neg hz]
    refine Ev.no hz (Ev.bind (qp i c (by omega) (by omega)) (Ev.bind (zA (i / c) p (by omega) (by omega)) (Ev.yes q1 (Ev.yes (show i % c<(core.length:Int) by omega) ?_))));simp only [hrd,hmv];by_cases hn:gJ c core i=[]
    · refine Ev.yes (by rw [hn];rfl) ?_
      have:bT p c core i=[]:=by unfold bT;rw [hn];rfl
      rw [this];exact Ev.now _
    · refine Ev.no (by have:=List.length_pos_iff.2 hn;omega) (Ev.no (by simp) (Ev.no (by simp) (Ev.yes q1 (Ev.yes (show i % c<(core.length:Int) by omega) ?_))))
      have hS:SL (-1099511627776) 1099511627776 (gJ c core i):=h.hcore _ (h.jM i hz);have hok:(gJ c core i).all (okM (i / c*p))=true:=List.all_eq_true.2 fun s hs=>rD.2 (by
        have:=hm (fG (i / c*p) s) (List.mem_map_of_mem hs);have q:=SL.ticks hS hs;simp only [fG] at this;omega)
      have hmo:mK (i / c*p) (gJ c core i)=(bT p c core i,0):=by unfold mK;rw [if_pos hok];rfl
      refine Ev.bind (abS _ _ hS (by omega)) ?_;rw [hmo];exact Ev.now _
theorem xZ (h:SF p c core odd):∃ b,Ev (fun k=>eP.f k p c core odd) b∧(b=true↔∃ l∈core,l≠[]):=by
  have hl0:=h.hl;unfold eP.f;have key:∀ (rest pre:List (List Sp)),core=pre++rest→(∀ l∈pre,l=[])→∃ b,Ev (fun k=>eP.l0 (fun y=>some (decide (y≥0))) (some false) core (core.length:Int) k (pre.length:Int)) b∧(b=true↔∃ l∈core,l≠[]):=by
    intro rest;induction rest with
    | nil =>
      intro pre hp he;refine ⟨false,Ev.step (f:=fun _=>some false) (fun k => ?_) (Ev.now _),?_⟩
      · have c1:¬ (pre.length:Int)<(core.length:Int):=by rw [hp];simp
        simp only [eP.l0,eP.l0T,decide_eq_true_eq,c1,if_false]
      · simp only [List.append_nil] at hp
        subst hp;exact ⟨fun e=>(by cases e),fun ⟨l,h1,h2⟩=>absurd (he l h1) h2⟩
    | cons l r ih =>
      intro pre hp he;have hlen:pre.length+1≤core.length:=by rw [hp];simp
      have hrd:gL core (pre.length:Int)=l:=by rw [hp];simp [gL]
      have c1:(pre.length:Int)<(core.length:Int):=by omega
      have c2:(0:Int)≤(pre.length:Int):=by omega
      have hw:=nx c1 c2 (by omega);by_cases hz:l=[]
      · obtain ⟨x,x1,x2⟩:=ih (pre++[l]) (by rw [hp];simp) (fun y hy=>by rcases List.mem_append.1 hy with hy | hy;exact he y hy;simp at hy;rw [hy];exact hz)
        refine ⟨x,Ev.step (fun k=>rfl) ?_,x2⟩;simp only [eP.l0,eP.l0T,decide_eq_true_eq,c1,c2,if_true,hrd,hw,iI.f,hz,Option.bind_some];rw [len1 _ l];exact x1
      · refine ⟨true,Ev.step (f:=fun _=>some true) (fun k => ?_) (Ev.now _),?_⟩
        · have:((l.length:Int)>0):=by have:=List.length_pos_iff.2 hz;omega
          simp only [eP.l0,eP.l0T,decide_eq_true_eq,c1,c2,if_true,hrd,iI.f,this,Option.bind_some];simp
        · exact ⟨fun _=>⟨l,by rw [hp];simp,hz⟩,fun _=>rfl⟩
  exact key core [] rfl (by simp)
end Go.Proofs.YtcomnjodjijcmaaGreat.Q
namespace Go.Proofs.YtcomnjodjijcmaaGreat.Q
set_option linter.unusedVariables false
set_option linter.unusedSimpArgs false
open Go.RowKit Go.Proofs.YtcomnjodjijcmaaGreatW.dA Go.Proofs.YtcomnjodjijcmaaGreatW.eD M R P
section
abbrev Fm:=P.S25
def al (x y:List Sp):Prop:=x≠[]→y≠[]→x=y
def DU (x y:List Sp):List Sp:=if x=[] then y else x
def DC (x y:List Sp):List Sp:=if y=[] then [] else x
def DL (x y:List Sp):List Sp:=if y=[] then x else []
def bF (A:Fm) (i:Int):List Sp:=bT A.f0 A.f1 A.f2 i
def vF (A:Fm) (i:Int):List Sp × Int:=jJ A.f0 A.f1 A.f2 A.f3 i
def nF (A B:Fm):Nat:=rn A.f2.length B.f2.length
def tF (A B:Fm):Int:=rt A.f0 A.f2.length B.f0 B.f2.length
def oI (A B:Fm):Prop:=A.f2=[]∨B.f2=[]∨tF A B=tF B A
def iW (A B:Fm):List Int:=jc (kG ((A.f3++B.f3).map fun g=>g.f0))
def sfF (A:Fm):Prop:=SF A.f0 A.f1 A.f2 A.f3
structure OfH (A B:Fm):Prop where
  sa:sfF A
  sb:sfF B
  ga:A.f2≠[]→∃ l∈A.f2,l≠[]
  gb:B.f2≠[]→∃ l∈B.f2,l≠[]
  n:nF A B≤6000
  t:tF A B≤1099511627776
  t':tF B A≤1099511627776
  pa:A.f0≤100000000
  pb:B.f0≤100000000
  ma:∀ i,0≤i→i<(nF A B:Int)→∀ s∈bF A i,-1099511627776≤s.f0∧s.f1≤1099511627776
  mb:∀ i,0≤i→i<(nF A B:Int)→∀ s∈bF B i,-1099511627776≤s.f0∧s.f1≤1099511627776
  o:A.f3.length+B.f3.length≤6000
theorem afd (a b:Nat):rn a b=rn b a:=by
  unfold rn;by_cases h:a=0
  · by_cases g:b=0
    · rw [if_pos h,if_pos g,h,g]
    · rw [if_pos h,if_neg g,if_pos h]
  · by_cases g:b=0
    · rw [if_neg h,if_pos g,if_pos g]
    · rw [if_neg h,if_neg g,if_neg g,if_neg h,Nat.lcm_comm]
theorem pI (A B:Fm):nF A B=nF B A:=afd _ _
theorem l5 (A B:Fm):(iW A B).length≤A.f3.length+B.f3.length:=by
  have h1:(iW A B).length≤(kG ((A.f3++B.f3).map fun g=>g.f0)).length:=Lib.compact_length_le _;have h2:(kG ((A.f3++B.f3).map fun g=>g.f0)).length=A.f3.length+B.f3.length:=by rw [oD];simp
  omega
theorem oJ {A:Fm} (h:sfF A) (i:Int):(bF A i).length≤4611686018427387904:=by
  unfold bF bT;rw [List.length_map];by_cases hc:A.f1=0
  · unfold gJ;rw [if_pos hc];simp
  · have:=(h.hcore _ (h.jM i hc)).uD
    omega
theorem rdP (l:List P2) (j:Nat) (hj:j<l.length):gP l (j:Int)=l[j]:=by simp [gP,hj]
theorem rdI (l:List Int) (j:Nat) (hj:j<l.length):gI l (j:Int)=l[j]:=by simp [gI,hj]
theorem agt (k:Nat) (x y:List Sp):iJ.f k x y=some (DU x y):=by
  unfold iJ.f DU;simp only [decide_eq_true_eq];by_cases h:x=[]
  · rw [if_pos h,if_neg (by rw [h];simp)]
  · rw [if_neg h,if_pos (by have:=List.length_pos_iff.2 h;omega)]
theorem agu (k:Nat) (x y:List Sp):iK.f k x y=some (DC x y):=by
  unfold iK.f DC;simp only [decide_eq_true_eq];by_cases h:y=[]
  · rw [if_pos h,if_neg (by rw [h];simp)]
  · rw [if_neg h,if_pos (by have:=List.length_pos_iff.2 h;omega)]
theorem agv (k:Nat) (x y:List Sp):iL.f k x y=some (DL x y):=by
  unfold iL.f DL;simp only [decide_eq_true_eq];by_cases h:y=[]
  · rw [if_pos h,if_neg (by rw [h];simp)]
  · rw [if_neg h,if_pos (by have:=List.length_pos_iff.2 h;omega)]
end
variable [Inhabited WT]
theorem uP {A B:Fm} (H:OfH A B):∃ r,Ev (fun k=>dN.f k A.f0 A.f1 A.f2 A.f3 B.f0 B.f1 B.f2 B.f3) r∧(oI A B→r=((List.range (nF A B)).map (fun (i:Nat)=>(⟨bF A (i:Int),bF B (i:Int)⟩:P2)),tF A B,0))∧(¬ oI A B→r=([],0,51)):=by
  obtain ⟨ga,a1,a2⟩:=xZ H.sa;obtain ⟨gb,b1,b2⟩:=xZ H.sb;have ra:=rM H.sa H.sb H.n H.t;have rb:=rM H.sb H.sa (by have:=H.n;rw [pI] at this;exact this) H.t';have za:A.f2≠[]↔ga=true:=⟨fun h=>a2.2 (H.ga h),fun e h=>by obtain ⟨l,hl,_⟩:=a2.1 e;rw [h] at hl;cases hl⟩;have zb:B.f2≠[]↔gb=true:=⟨fun h=>b2.2 (H.gb h),fun e h=>by obtain ⟨l,hl,_⟩:=b2.1 e;rw [h] at hl;cases hl⟩;have hn:=H.n;have key:∀ (d j:Nat),nF A B - j=d→j≤nF A B→Ev (fun k=>dN.l1 (fun _=>some (([]:List P2),(0:Int),(20:Int))) (fun y=>some (y,tF A B,0)) (nF A B:Int) A.f0 A.f1 A.f2 A.f3 B.f0 B.f1 B.f2 B.f3 k ((List.range j).map (fun (i:Nat)=>(⟨bF A (i:Int),bF B (i:Int)⟩:P2))) (j:Int)) ((List.range (nF A B)).map (fun (i:Nat)=>(⟨bF A (i:Int),bF B (i:Int)⟩:P2)),tF A B,0):=by
    intro d;induction d with
    | zero =>
      intro j hd hj;obtain rfl:j=nF A B:=by omega
      refine Ev.step (f:=fun _=>some _) (fun k => ?_) (Ev.now _);have c1:¬ (nF A B:Int)<(nF A B:Int):=by omega
      simp only [dN.l1,dN.l1T,decide_eq_true_eq,c1,if_false]
    | succ d ih =>
      intro j hd hj;have c1:(j:Int)<(nF A B:Int):=by omega
      have hw:=nx c1 (by omega) (by omega);refine Ev.step (fun k=>rfl) ?_;simp only [dN.l1,dN.l1T,decide_eq_true_eq,c1,if_true,hw];have hlen:((List.range j).map (fun (i:Nat)=>(⟨bF A (i:Int),bF B (i:Int)⟩:P2))).length+1≤2932031007402:=by simp;omega
      refine Ev.bind (zG H.sa (j:Int) (by omega) H.pa (H.ma _ (by omega) c1)) (Ev.bind (zG H.sb (j:Int) (by omega) H.pb (H.mb _ (by omega) c1)) (Ev.no (by simp) (Ev.no (by simp) ?_)));refine Ev.yes hlen ?_;have:=ih (j+1) (by omega) (by omega);rw [List.range_succ,List.map_append] at this;exact this
  have aa:=key (nF A B) 0 (by omega) (by omega);simp only [List.range_zero,List.map_nil,Int.natCast_zero] at aa;unfold dN.f;by_cases ha:A.f2=[]
  · have hga:ga=false:=by
      cases ga
      · rfl
      · exact absurd ha (za.2 rfl)
    subst hga;refine ⟨_,Ev.bind ra (Ev.no (by simp) (Ev.bind a1 (Ev.no (by simp) ?_))),fun _=>rfl,fun hf=>absurd (.inl ha) hf⟩;exact aa
  · have hga:ga=true:=za.1 ha
    subst hga;by_cases hb:B.f2=[]
    · have hgb:gb=false:=by
        cases gb
        · rfl
        · exact absurd hb (zb.2 rfl)
      subst hgb;refine ⟨_,Ev.bind ra (Ev.no (by simp) (Ev.bind a1 (Ev.yes rfl (Ev.bind b1 (Ev.no (by simp) ?_))))),fun _=>rfl,fun hf=>absurd (.inr (.inl hb)) hf⟩;exact aa
    · have hgb:gb=true:=zb.1 hb
      subst hgb;by_cases hf:tF B A=tF A B
      · refine ⟨_,Ev.bind ra (Ev.no (by simp) (Ev.bind a1 (Ev.yes rfl (Ev.bind b1 (Ev.yes rfl (Ev.bind rb (Ev.no (by simp only [Bool.not_eq_true',decide_eq_false_iff_not];exact fun e=>e hf) ?_))))))),fun _=>rfl,fun hf'=>absurd (.inr (.inr hf.symm)) hf'⟩
        exact aa
      · refine ⟨_,Ev.bind ra (Ev.no (by simp) (Ev.bind a1 (Ev.yes rfl (Ev.bind b1 (Ev.yes rfl (Ev.bind rb (Ev.yes (by simp only [Bool.not_eq_true',decide_eq_false_iff_not];exact hf) (Ev.now _)))))))),fun hf' => ?_,fun _=>rfl⟩
        rcases hf' with e | e | e
        · exact absurd e ha
        · exact absurd e hb
        · exact absurd e.symm hf
theorem nC (l:List P2) (hl:l.length≤6000) (hm:∀ q∈l,q.f0.length≤4611686018427387904):∃ b,Ev (fun k=>dW.f k l) b∧(b=true↔∀ q∈l,al q.f0 q.f1):=by
  unfold dW.f;have one:∀ q∈l,∃ b,Ev (fun k=>iG.f k q.f0 q.f1) b∧(b=false↔al q.f0 q.f1):=fun q hq=>by
    unfold iG.f;simp only [decide_eq_true_eq];by_cases h1:q.f0=[]
    · refine ⟨false,Ev.no (by rw [h1];simp) (Ev.now _),fun _ a=>absurd h1 a,fun _=>rfl⟩
    · by_cases h2:q.f1=[]
      · refine ⟨false,Ev.yes (by have:=List.length_pos_iff.2 h1;omega) (Ev.no (by rw [h2];simp) (Ev.now _)),fun _ _ a=>absurd h2 a,fun _=>rfl⟩
      · obtain ⟨r,r1,r2⟩:=xW q.f0 q.f1 (hm q hq)
        refine ⟨!r,Ev.yes (by have:=List.length_pos_iff.2 h1;omega) (Ev.yes (by have:=List.length_pos_iff.2 h2;omega) (Ev.bind r1 (Ev.now _))),?_⟩;cases r with
        | true=>exact ⟨fun _ _ _=>r2.1 rfl,fun _=>rfl⟩
        | false=>exact ⟨fun e=>(by cases e),fun a=>absurd (r2.2 (a h1 h2)) (by simp)⟩
  have key:∀ (rest pre:List P2),l=pre++rest→(∀ q∈pre,al q.f0 q.f1)→∃ b,Ev (fun k=>dW.l0 (fun y=>some (!decide (y≥0))) (some true) l (l.length:Int) k (pre.length:Int)) b∧(b=true↔∀ q∈l,al q.f0 q.f1):=by
    intro rest;induction rest with
    | nil =>
      intro pre hp he;refine ⟨true,Ev.step (f:=fun _=>some true) (fun k => ?_) (Ev.now _),?_⟩
      · have c1:¬ (pre.length:Int)<(l.length:Int):=by rw [hp];simp
        simp only [dW.l0,dW.l0T,decide_eq_true_eq,c1,if_false]
      · simp only [List.append_nil] at hp
        subst hp;exact ⟨fun _=>he,fun _=>rfl⟩
    | cons q r ih =>
      intro pre hp he;have hlen:pre.length+1≤l.length:=by rw [hp];simp
      have hrd:gP l (pre.length:Int)=q:=by rw [hp];simp [gP]
      have hq:q∈l:=by rw [hp];simp
      have c1:(pre.length:Int)<(l.length:Int):=by omega
      have c2:(0:Int)≤(pre.length:Int):=by omega
      have hw:=nx c1 c2 (by omega);obtain ⟨b,b1,b2⟩:=one q hq;cases b with
      | false =>
        obtain ⟨x,x1,x2⟩:=ih (pre++[q]) (by rw [hp];simp) (fun y hy=>by
          rcases List.mem_append.1 hy with hy | hy
          · exact he y hy
          · simp at hy;rw [hy];exact b2.1 rfl)
        refine ⟨x,Ev.step (fun k=>rfl) ?_,x2⟩;simp only [dW.l0,dW.l0T,decide_eq_true_eq,c1,c2,if_true,hrd,hw];refine Ev.bind b1 (Ev.no (by simp) ?_);rw [len1 _ q];exact x1
      | true =>
        refine ⟨false,Ev.step (fun k=>rfl) ?_,fun e=>(by cases e),fun e=>absurd (b2.2 (e q hq)) (by simp)⟩;simp only [dW.l0,dW.l0T,decide_eq_true_eq,c1,c2,if_true,hrd,hw];refine Ev.bind b1 (Ev.yes rfl ?_);exact Ev.congr (f:=fun _=>some false) (fun k=>by simp) (Ev.now _)
  exact key l [] rfl (by simp)
theorem ace (x y:List Gn) (h:x.length+y.length≤6000):Ev (fun k=>cZ.f k [x,y]) (x++y):=by
  refine ⟨3,fun k hk => ?_⟩;obtain ⟨k,rfl⟩:∃ j,k=j+3:=⟨k - 3,by omega⟩;have w0:wq (x.length:Int)=(x.length:Int):=iX (by omega) (by omega);have w1:wq ((x.length:Int)+(y.length:Int))=(x.length:Int)+(y.length:Int):=iX (by omega) (by omega);have w2:wq 1=1:=iX (by omega) (by omega);have w3:wq 2=2:=iX (by omega) (by omega);have n1:¬ ((x.length:Int)<0):=by omega
  have n2:¬ ((x.length:Int)+(y.length:Int)<0):=by omega
  have m1:x.length≤4398046511104:=by omega
  have m2:x.length+y.length≤4398046511104:=by omega
  have g0:(0:Int)≤(x.length:Int)+(y.length:Int):=by omega
  have g1:(x.length:Int)+(y.length:Int)≤8796093022208:=by omega
  simp [cZ.f,cZ.l0,cZ.l0T,cZ.l1,cZ.l1T,eB.f,gM,w0,w1,w2,w3,n1,n2,m1,m2,g0,g1]
theorem x9 {A B:Fm} (H:OfH A B):Ev (fun k=>dR.f k A.f0 A.f1 A.f2 A.f3 B.f0 B.f1 B.f2 B.f3) (iW A B,(iW A B).map fun i=>(⟨(vF A i).1,(vF B i).1⟩:P2)):=by
  have ho:=H.o;have hil:=l5 A B;unfold dR.f;refine Ev.bind (ace A.f3 B.f3 ho) ?_;have hl:(A.f3++B.f3).length≤6000:=by simp;omega
  have k1:∀ (d j:Nat),(iW A B).length - j=d→j≤(iW A B).length→Ev (fun k=>dR.l1 (fun y9=>some (iW A B,y9)) (iW A B) ((iW A B).length:Int) A.f0 A.f1 A.f2 A.f3 B.f0 B.f1 B.f2 B.f3 k (((iW A B).take j).map fun i=>(⟨(vF A i).1,(vF B i).1⟩:P2)) (j:Int)) (iW A B,(iW A B).map fun i=>(⟨(vF A i).1,(vF B i).1⟩:P2)):=by
    intro d;induction d with
    | zero =>
      intro j hd hj;obtain rfl:j=(iW A B).length:=by omega
      refine Ev.step (f:=fun _=>some _) (fun k => ?_) (Ev.now _);have c1:¬ ((iW A B).length:Int)<((iW A B).length:Int):=by omega
      simp only [dR.l1,dR.l1T,decide_eq_true_eq,c1,if_false,List.take_length]
    | succ d ih =>
      intro j hd hj;have hj':j<(iW A B).length:=by omega
      have c1:(j:Int)<((iW A B).length:Int):=by omega
      have c2:(0:Int)≤(j:Int):=by omega
      have hw:=nx c1 c2 (by omega);refine Ev.step (fun k=>rfl) ?_;simp only [dR.l1,dR.l1T,decide_eq_true_eq,c1,c2,if_true,hw,rdI _ j hj'];have hlen:(((iW A B).take j).map fun i=>(⟨(vF A i).1,(vF B i).1⟩:P2)).length+1≤2932031007402:=by simp;omega
      refine Ev.bind (jV H.sa _) (Ev.bind (jV H.sb _) ?_);refine Ev.yes hlen ?_;have:=ih (j+1) (by omega) (by omega);rw [List.take_succ_eq_append_getElem hj',List.map_append] at this;exact this
  have k0:∀ (d j:Nat),(A.f3++B.f3).length - j=d→j≤(A.f3++B.f3).length→∀ (X:Nat→List Int→Option (List Int × List P2)) (v:List Int × List P2),Ev (fun k=>X k ((A.f3++B.f3).map fun g=>g.f0)) v→Ev (fun k=>dR.l0 (X k) (A.f3++B.f3) ((A.f3++B.f3).length:Int) k (((A.f3++B.f3).take j).map fun g=>g.f0) (j:Int)) v:=by
    intro d;induction d with
    | zero =>
      intro j hd hj X v hX;obtain rfl:j=(A.f3++B.f3).length:=by omega
      refine Ev.step (f:=fun k=>X (k+1) ((A.f3++B.f3).map fun g=>g.f0)) (fun k => ?_) (Ev.shift hX);have c1:¬ ((A.f3++B.f3).length:Int)<((A.f3++B.f3).length:Int):=by omega
      simp only [dR.l0,dR.l0T,decide_eq_true_eq,c1,if_false,List.take_length]
    | succ d ih =>
      intro j hd hj X v hX;have hj':j<(A.f3++B.f3).length:=by omega
      have c1:(j:Int)<((A.f3++B.f3).length:Int):=by omega
      have c2:(0:Int)≤(j:Int):=by omega
      have hw:=nx c1 c2 (by omega);refine Ev.step (fun k=>rfl) ?_;simp only [dR.l0,dR.l0T,decide_eq_true_eq,c1,c2,if_true,hw,rdG _ j hj'];have hlen:(((A.f3++B.f3).take j).map fun g=>g.f0).length+1≤17592186044416:=by simp;omega
      refine Ev.yes hlen ?_;have:=ih (j+1) (by omega) (by omega) (fun k=>X (k+1)) v (Ev.shift hX);rw [List.take_succ_eq_append_getElem hj',List.map_append] at this;exact this
  have fin:=k0 (A.f3++B.f3).length 0 (by omega) (by omega) (fun k y2=>(if (decide (y2.length≤8796093022208))=true then (if (decide ((kG y2).length≤8796093022208))=true then (dR.l1 (fun y9=>(some ((jc (kG y2)),y9))) (jc (kG y2)) ((jc (kG y2)).length:Int) A.f0 A.f1 A.f2 A.f3 B.f0 B.f1 B.f2 B.f3 k [] 0) else none) else none)) (iW A B,(iW A B).map fun i=>(⟨(vF A i).1,(vF B i).1⟩:P2)) (by
    refine Ev.yes (by simp;omega) (Ev.yes (by simp [oD];omega) ?_);have:=k1 _ 0 rfl (by omega);exact this)
  exact fin
end Go.Proofs.YtcomnjodjijcmaaGreat.Q
namespace Go.Proofs.YtcomnjodjijcmaaGreat.Q
set_option linter.unusedVariables false
set_option linter.unusedSimpArgs false
open Go.RowKit Go.Proofs.YtcomnjodjijcmaaGreatW.dA Go.Proofs.YtcomnjodjijcmaaGreatW.eD M R P
section
def gW (D:List Sp→List Sp→List Sp) (A B:Fm):Fm:=⟨tF A B,(nF A B:Int),(List.range (nF A B)).map (fun (i:Nat)=>D (bF A (i:Int)) (bF B (i:Int))),(iW A B).map fun i=>⟨i,D (vF A i).1 (vF B i).1⟩⟩
def oK (A B:Fm):Prop:=oI A B∧(∀ i:Nat,i<nF A B→al (bF A (i:Int)) (bF B (i:Int)))∧∀ i∈iW A B,al (vF A i).1 (vF B i).1
def grF (A:Fm):Prop:=GR A.f0 A.f1 A.f2 A.f3
def acA (A h:Fm):Prop:=xX A.f0 A.f2 A.f3 h
def noF:Fm:=⟨0,0,[],[]⟩
def OfS (D:List Sp→List Sp→List Sp) (A B:Fm) (r:Fm × Int):Prop :=
  (¬ oK A B→r=(noF,51))∧(oK A B→(¬ grF (gW D A B)→r=(noF,51))∧(grF (gW D A B)→∃ h,acA (gW D A B) h∧r=(h,0)))
def oneOf (D:List Sp→List Sp→List Sp):Prop:=∀ x y,D x y=x∨D x y=y∨D x y=[]
theorem agN:oneOf DU:=fun x y=>by unfold DU;split;exact .inr (.inl rfl);exact .inl rfl
theorem agO:oneOf DC:=fun x y=>by unfold DC;split;exact .inr (.inr rfl);exact .inl rfl
theorem agP:oneOf DL:=fun x y=>by unfold DL;split;exact .inl rfl;exact .inr (.inr rfl)
end
variable [Inhabited WT]
theorem adG {p c p' c':Int} {core fq:List (List Sp)} {odd jA:List Gn} {A B:Fm} (ca:Ev (fun k=>dL.f k p c core odd) A) (cb:Ev (fun k=>dL.f k p' c' fq jA) B) (H:OfH A B) (hs:lM (gW DU A B).f2 (gW DU A B).f3≤60000) :
    ∃ r,Ev (fun k=>dB.f k p c core odd p' c' fq jA) r∧OfS DU A B r:=by
  obtain ⟨r1,c1,c2,c3⟩:=uP H;have hn:=H.n;have ho:=H.o;have hil:=l5 A B;unfold dB.f;by_cases hf:oI A B
  case neg =>
    have:=c3 hf;subst this;exact ⟨_,Ev.bind ca (Ev.bind cb (Ev.bind c1 (Ev.yes (by simp) (Ev.now _)))),fun _=>rfl,fun h=>absurd h.1 hf⟩
  have:=c2 hf;subst this;obtain ⟨b1,d1,d2⟩:=nC ((List.range (nF A B)).map (fun (i:Nat)=>(⟨bF A (i:Int),bF B (i:Int)⟩:P2))) (by simp;omega) (fun q hq=>by
    obtain ⟨i,_,rfl⟩:=List.mem_map.1 hq;exact oJ H.sa _)
  obtain ⟨b2,e1,e2⟩:=nC ((iW A B).map fun i=>(⟨(vF A i).1,(vF B i).1⟩:P2)) (by simp;omega) (fun q hq=>by
    obtain ⟨i,_,rfl⟩:=List.mem_map.1 hq;exact kg H.sa _)
  have od:=x9 H;cases b1 with
  | false =>
    refine ⟨_,Ev.bind ca (Ev.bind cb (Ev.bind c1 (Ev.no (by simp) (Ev.bind od (Ev.bind d1 (Ev.yes rfl (Ev.now _))))))),fun _=>rfl,fun h => ?_⟩;exact absurd (d2.2 fun q hq=>by
      obtain ⟨i,hi,rfl⟩:=List.mem_map.1 hq;exact h.2.1 i (List.mem_range.1 hi)) (by simp)
  | true =>
  cases b2 with
  | false =>
    refine ⟨_,Ev.bind ca (Ev.bind cb (Ev.bind c1 (Ev.no (by simp) (Ev.bind od (Ev.bind d1 (Ev.no (by simp) (Ev.bind e1 (Ev.yes rfl (Ev.now _))))))))),fun _=>rfl,fun h => ?_⟩;exact absurd (e2.2 fun q hq=>by
      obtain ⟨i,hi,rfl⟩:=List.mem_map.1 hq;exact h.2.2 i hi) (by simp)
  | true =>
  have hal:oK A B:=⟨hf,fun i hi=>d2.1 rfl _ (List.mem_map.2 ⟨i,List.mem_range.2 hi,rfl⟩),fun i hi=>e2.1 rfl _ (List.mem_map.2 ⟨i,hi,rfl⟩)⟩;have m:MF (gW DU A B).f2 (gW DU A B).f3:=by
    refine ⟨fun l hl => ?_,fun g hg => ?_⟩
    · obtain ⟨i,_,rfl⟩:=List.mem_map.1 hl
      have q1:=oJ H.sa (i:Int);have q2:=oJ H.sb (i:Int);rcases agN (bF A (i:Int)) (bF B (i:Int)) with e | e | e
      · rw [e];omega
      · rw [e];omega
      · rw [e];simp
    · obtain ⟨i,_,rfl⟩:=List.mem_map.1 hg
      have q1:(vF A i).1.length≤4611686018427387904:=kg H.sa i;have q2:(vF B i).1.length≤4611686018427387904:=kg H.sb i;show (DU (vF A i).1 (vF B i).1).length≤_;rcases agN (vF A i).1 (vF B i).1 with e | e | e
      · rw [e];omega
      · rw [e];omega
      · rw [e];simp
  obtain ⟨n,⟨_,g2⟩,e,f1,f2,f3,f4⟩:=mM (p:=(gW DU A B).f0) (c:=(gW DU A B).f1) m (by simp [gW];omega) (by simp [gW];omega);have hne:=g2 (by omega);have l1:∀ (L:List P2),L.length≤6000→∀ (d j:Nat),L.length - j=d→j≤L.length→∀ (X:Nat→List (List Sp)→Option (Fm × Int)) (v:Fm × Int),Ev (fun k=>X k (L.map fun q=>DU q.f0 q.f1)) v→Ev (fun k=>dB.l1 (X k) L (L.length:Int) k (j:Int) ((L.take j).map fun q=>DU q.f0 q.f1)) v:=by
    intro L hL d;induction d with
    | zero =>
      intro j hd hj X v hX;obtain rfl:j=L.length:=by omega
      refine Ev.step (f:=fun k=>X (k+1) (L.map fun q=>DU q.f0 q.f1)) (fun k => ?_) (Ev.shift hX);have c1:¬ (L.length:Int)<(L.length:Int):=by omega
      simp only [dB.l1,dB.l1T,decide_eq_true_eq,c1,if_false,List.take_length]
    | succ d ih =>
      intro j hd hj X v hX;have hj':j<L.length:=by omega
      have c1:(j:Int)<(L.length:Int):=by omega
      have c2:(0:Int)≤(j:Int):=by omega
      have hw:=nx c1 c2 (by omega);refine Ev.step (fun k=>rfl) ?_;simp only [dB.l1,dB.l1T,decide_eq_true_eq,c1,c2,if_true,hw,rdP _ j hj',agt,Option.bind_some];have hlen:((L.take j).map fun q=>DU q.f0 q.f1).length+1≤5864062014805:=by simp;omega
      refine Ev.yes hlen ?_;have:=ih (j+1) (by omega) (by omega) (fun k=>X (k+1)) v (Ev.shift hX);rw [List.take_succ_eq_append_getElem hj',List.map_append] at this;exact this
  have l2:∀ (d j:Nat),(iW A B).length - j=d→j≤(iW A B).length→∀ (X:Nat→List Gn→Option (Fm × Int)) (v:Fm × Int),Ev (fun k=>X k (gW DU A B).f3) v→Ev (fun k=>dB.l2 (X k) (iW A B) ((iW A B).map fun i=>(⟨(vF A i).1,(vF B i).1⟩:P2)) (((iW A B).map fun i=>(⟨(vF A i).1,(vF B i).1⟩:P2)).length:Int) k (j:Int) (((iW A B).take j).map fun i=>⟨i,DU (vF A i).1 (vF B i).1⟩)) v:=by
    intro d;have hml:((iW A B).map fun i=>(⟨(vF A i).1,(vF B i).1⟩:P2)).length=(iW A B).length:=by simp
    induction d with
    | zero =>
      intro j hd hj X v hX;obtain rfl:j=(iW A B).length:=by omega
      refine Ev.step (f:=fun k=>X (k+1) (gW DU A B).f3) (fun k => ?_) (Ev.shift hX);have c1:¬ ((iW A B).length:Int)<((iW A B).length:Int):=by omega
      simp only [dB.l2,dB.l2T,decide_eq_true_eq,hml,c1,if_false,List.take_length];rfl
    | succ d ih =>
      intro j hd hj X v hX;have hj':j<(iW A B).length:=by omega
      have c1:(j:Int)<((iW A B).length:Int):=by omega
      have c2:(0:Int)≤(j:Int):=by omega
      have hw:=nx c1 c2 (by omega);refine Ev.step (fun k=>rfl) ?_;simp only [dB.l2,dB.l2T,decide_eq_true_eq,hml,c1,c2,if_true,hw,rdP _ j (show j<((iW A B).map fun i=>(⟨(vF A i).1,(vF B i).1⟩:P2)).length by rw [hml];exact hj'),rdI _ j hj',agt,Option.bind_some,List.getElem_map];have hlen:(((iW A B).take j).map fun i=>(⟨i,DU (vF A i).1 (vF B i).1⟩:Gn)).length+1≤4398046511104:=by simp;omega
      refine Ev.yes hlen ?_;have:=ih (j+1) (by omega) (by omega) (fun k=>X (k+1)) v (Ev.shift hX);rw [List.take_succ_eq_append_getElem hj',List.map_append,hml] at this;exact this
  have hml:(((List.range (nF A B)).map (fun (i:Nat)=>(⟨bF A (i:Int),bF B (i:Int)⟩:P2))).map fun q=>DU q.f0 q.f1)=(gW DU A B).f2:=by
    simp [gW,List.map_map,Function.comp_def]
  have hll:((((List.range (nF A B)).map (fun (i:Nat)=>(⟨bF A (i:Int),bF B (i:Int)⟩:P2)))).length:Int)=(gW DU A B).f1:=by simp [gW]
  have fin:∀ v,Ev (fun k=>(dI.f k (gW DU A B).f0 (gW DU A B).f1 (gW DU A B).f2 (gW DU A B).f3).bind fun aa=>(if (decide (aa=0))=true then ((dL.f k (gW DU A B).f0 (gW DU A B).f1 (gW DU A B).f2 (gW DU A B).f3).bind fun t16=>(some ((⟨t16.f0,t16.f1,t16.f2,t16.f3⟩:Fm),(0:Int)))) else (if (decide (aa=3))=true then some (noF,3) else some (noF,51)))) v →
      Ev (fun k=>dB.f k p c core odd p' c' fq jA) v:=fun v hv=>by
    unfold dB.f;refine Ev.bind ca (Ev.bind cb (Ev.bind c1 (Ev.no (by simp) (Ev.bind od (Ev.bind d1 (Ev.no (by simp) (Ev.bind e1 (Ev.no (by simp) ?_))))))));unfold dB.l0;have k2:=l2 (iW A B).length 0 (by omega) (by omega) (fun k ab=>(dI.f k (gW DU A B).f0 (gW DU A B).f1 (gW DU A B).f2 ab).bind fun aa=>(if (decide (aa=0))=true then ((dL.f k (gW DU A B).f0 (gW DU A B).f1 (gW DU A B).f2 ab).bind fun t16=>(some ((⟨t16.f0,t16.f1,t16.f2,t16.f3⟩:Fm),(0:Int)))) else (if (decide (aa=3))=true then some (noF,3) else some (noF,51)))) v hv;have k1:=l1 ((List.range (nF A B)).map (fun (i:Nat)=>(⟨bF A (i:Int),bF B (i:Int)⟩:P2))) (by simp;omega) _ 0 rfl (by omega) (fun k ac=>dB.l2 (fun ab=>(dI.f k (gW DU A B).f0 (gW DU A B).f1 ac ab).bind fun aa=>(if (decide (aa=0))=true then ((dL.f k (gW DU A B).f0 (gW DU A B).f1 ac ab).bind fun t16=>(some ((⟨t16.f0,t16.f1,t16.f2,t16.f3⟩:Fm),(0:Int)))) else (if (decide (aa=3))=true then some (noF,3) else some (noF,51)))) (iW A B) ((iW A B).map fun i=>(⟨(vF A i).1,(vF B i).1⟩:P2)) (((iW A B).map fun i=>(⟨(vF A i).1,(vF B i).1⟩:P2)).length:Int) k 0 []) v (by rw [hml];exact k2);simp only [hll] at k1 ⊢;exact k1
  by_cases hg:grF (gW DU A B)
  · have he:e=0:=f4.2 ⟨by omega,hg⟩
    subst he;obtain ⟨h,h1,h2⟩:=kN (p:=(gW DU A B).f0) (c:=(gW DU A B).f1) (core:=(gW DU A B).f2) (odd:=(gW DU A B).f3) hg.s;have r1:=fin (h,0) (Ev.bind f1 (Ev.yes rfl (Ev.bind h1 (Ev.now _))));exact ⟨_,r1,fun hh=>absurd hal hh,fun _=>⟨fun hh=>absurd hg hh,fun _=>⟨h,h2,rfl⟩⟩⟩
  · have he:e=50:=by
      rcases f2 with e' | e' | e'
      · exact absurd (f4.1 e').2 hg
      · exact absurd (f3.1 e') (by omega)
      · exact e'
    subst he;have r1:=fin (noF,51) (Ev.bind f1 (Ev.no (by simp) (Ev.no (by simp) (Ev.now _))));exact ⟨_,r1,fun hh=>absurd hal hh,fun _=>⟨fun _=>rfl,fun hh=>absurd hh hg⟩⟩
theorem ad7 {p c p' c':Int} {core fq:List (List Sp)} {odd jA:List Gn} {A B:Fm} (ca:Ev (fun k=>dL.f k p c core odd) A) (cb:Ev (fun k=>dL.f k p' c' fq jA) B) (H:OfH A B) (hs:lM (gW DC A B).f2 (gW DC A B).f3≤60000) :
    ∃ r,Ev (fun k=>dM.f k p c core odd p' c' fq jA) r∧OfS DC A B r:=by
  obtain ⟨r1,c1,c2,c3⟩:=uP H;have hn:=H.n;have ho:=H.o;have hil:=l5 A B;unfold dM.f;by_cases hf:oI A B
  case neg =>
    have:=c3 hf;subst this;exact ⟨_,Ev.bind ca (Ev.bind cb (Ev.bind c1 (Ev.yes (by simp) (Ev.now _)))),fun _=>rfl,fun h=>absurd h.1 hf⟩
  have:=c2 hf;subst this;obtain ⟨b1,d1,d2⟩:=nC ((List.range (nF A B)).map (fun (i:Nat)=>(⟨bF A (i:Int),bF B (i:Int)⟩:P2))) (by simp;omega) (fun q hq=>by
    obtain ⟨i,_,rfl⟩:=List.mem_map.1 hq;exact oJ H.sa _)
  obtain ⟨b2,e1,e2⟩:=nC ((iW A B).map fun i=>(⟨(vF A i).1,(vF B i).1⟩:P2)) (by simp;omega) (fun q hq=>by
    obtain ⟨i,_,rfl⟩:=List.mem_map.1 hq;exact kg H.sa _)
  have od:=x9 H;cases b1 with
  | false =>
    refine ⟨_,Ev.bind ca (Ev.bind cb (Ev.bind c1 (Ev.no (by simp) (Ev.bind od (Ev.bind d1 (Ev.yes rfl (Ev.now _))))))),fun _=>rfl,fun h => ?_⟩;exact absurd (d2.2 fun q hq=>by
      obtain ⟨i,hi,rfl⟩:=List.mem_map.1 hq;exact h.2.1 i (List.mem_range.1 hi)) (by simp)
  | true =>
  cases b2 with
  | false =>
    refine ⟨_,Ev.bind ca (Ev.bind cb (Ev.bind c1 (Ev.no (by simp) (Ev.bind od (Ev.bind d1 (Ev.no (by simp) (Ev.bind e1 (Ev.yes rfl (Ev.now _))))))))),fun _=>rfl,fun h => ?_⟩;exact absurd (e2.2 fun q hq=>by
      obtain ⟨i,hi,rfl⟩:=List.mem_map.1 hq;exact h.2.2 i hi) (by simp)
  | true =>
  have hal:oK A B:=⟨hf,fun i hi=>d2.1 rfl _ (List.mem_map.2 ⟨i,List.mem_range.2 hi,rfl⟩),fun i hi=>e2.1 rfl _ (List.mem_map.2 ⟨i,hi,rfl⟩)⟩;have m:MF (gW DC A B).f2 (gW DC A B).f3:=by
    refine ⟨fun l hl => ?_,fun g hg => ?_⟩
    · obtain ⟨i,_,rfl⟩:=List.mem_map.1 hl
      have q1:=oJ H.sa (i:Int);have q2:=oJ H.sb (i:Int);rcases agO (bF A (i:Int)) (bF B (i:Int)) with e | e | e
      · rw [e];omega
      · rw [e];omega
      · rw [e];simp
    · obtain ⟨i,_,rfl⟩:=List.mem_map.1 hg
      have q1:(vF A i).1.length≤4611686018427387904:=kg H.sa i;have q2:(vF B i).1.length≤4611686018427387904:=kg H.sb i;show (DC (vF A i).1 (vF B i).1).length≤_;rcases agO (vF A i).1 (vF B i).1 with e | e | e
      · rw [e];omega
      · rw [e];omega
      · rw [e];simp
  obtain ⟨n,⟨_,g2⟩,e,f1,f2,f3,f4⟩:=mM (p:=(gW DC A B).f0) (c:=(gW DC A B).f1) m (by simp [gW];omega) (by simp [gW];omega);have hne:=g2 (by omega);have l1:∀ (L:List P2),L.length≤6000→∀ (d j:Nat),L.length - j=d→j≤L.length→∀ (X:Nat→List (List Sp)→Option (Fm × Int)) (v:Fm × Int),Ev (fun k=>X k (L.map fun q=>DC q.f0 q.f1)) v→Ev (fun k=>dM.l1 (X k) L (L.length:Int) k (j:Int) ((L.take j).map fun q=>DC q.f0 q.f1)) v:=by
    intro L hL d;induction d with
    | zero =>
      intro j hd hj X v hX;obtain rfl:j=L.length:=by omega
      refine Ev.step (f:=fun k=>X (k+1) (L.map fun q=>DC q.f0 q.f1)) (fun k => ?_) (Ev.shift hX);have c1:¬ (L.length:Int)<(L.length:Int):=by omega
      simp only [dM.l1,dM.l1T,decide_eq_true_eq,c1,if_false,List.take_length]
    | succ d ih =>
      intro j hd hj X v hX;have hj':j<L.length:=by omega
      have c1:(j:Int)<(L.length:Int):=by omega
      have c2:(0:Int)≤(j:Int):=by omega
      have hw:=nx c1 c2 (by omega);refine Ev.step (fun k=>rfl) ?_;simp only [dM.l1,dM.l1T,decide_eq_true_eq,c1,c2,if_true,hw,rdP _ j hj',agu,Option.bind_some];have hlen:((L.take j).map fun q=>DC q.f0 q.f1).length+1≤5864062014805:=by simp;omega
      refine Ev.yes hlen ?_;have:=ih (j+1) (by omega) (by omega) (fun k=>X (k+1)) v (Ev.shift hX);rw [List.take_succ_eq_append_getElem hj',List.map_append] at this;exact this
  have l2:∀ (d j:Nat),(iW A B).length - j=d→j≤(iW A B).length→∀ (X:Nat→List Gn→Option (Fm × Int)) (v:Fm × Int),Ev (fun k=>X k (gW DC A B).f3) v→Ev (fun k=>dM.l2 (X k) (iW A B) ((iW A B).map fun i=>(⟨(vF A i).1,(vF B i).1⟩:P2)) (((iW A B).map fun i=>(⟨(vF A i).1,(vF B i).1⟩:P2)).length:Int) k (j:Int) (((iW A B).take j).map fun i=>⟨i,DC (vF A i).1 (vF B i).1⟩)) v:=by
    intro d;have hml:((iW A B).map fun i=>(⟨(vF A i).1,(vF B i).1⟩:P2)).length=(iW A B).length:=by simp
    induction d with
    | zero =>
      intro j hd hj X v hX;obtain rfl:j=(iW A B).length:=by omega
      refine Ev.step (f:=fun k=>X (k+1) (gW DC A B).f3) (fun k => ?_) (Ev.shift hX);have c1:¬ ((iW A B).length:Int)<((iW A B).length:Int):=by omega
      simp only [dM.l2,dM.l2T,decide_eq_true_eq,hml,c1,if_false,List.take_length];rfl
    | succ d ih =>
      intro j hd hj X v hX;have hj':j<(iW A B).length:=by omega
      have c1:(j:Int)<((iW A B).length:Int):=by omega
      have c2:(0:Int)≤(j:Int):=by omega
      have hw:=nx c1 c2 (by omega);refine Ev.step (fun k=>rfl) ?_;simp only [dM.l2,dM.l2T,decide_eq_true_eq,hml,c1,c2,if_true,hw,rdP _ j (show j<((iW A B).map fun i=>(⟨(vF A i).1,(vF B i).1⟩:P2)).length by rw [hml];exact hj'),rdI _ j hj',agu,Option.bind_some,List.getElem_map];have hlen:(((iW A B).take j).map fun i=>(⟨i,DC (vF A i).1 (vF B i).1⟩:Gn)).length+1≤4398046511104:=by simp;omega
      refine Ev.yes hlen ?_;have:=ih (j+1) (by omega) (by omega) (fun k=>X (k+1)) v (Ev.shift hX);rw [List.take_succ_eq_append_getElem hj',List.map_append,hml] at this;exact this
  have hml:(((List.range (nF A B)).map (fun (i:Nat)=>(⟨bF A (i:Int),bF B (i:Int)⟩:P2))).map fun q=>DC q.f0 q.f1)=(gW DC A B).f2:=by
    simp [gW,List.map_map,Function.comp_def]
  have hll:((((List.range (nF A B)).map (fun (i:Nat)=>(⟨bF A (i:Int),bF B (i:Int)⟩:P2)))).length:Int)=(gW DC A B).f1:=by simp [gW]
  have fin:∀ v,Ev (fun k=>(dI.f k (gW DC A B).f0 (gW DC A B).f1 (gW DC A B).f2 (gW DC A B).f3).bind fun aa=>(if (decide (aa=0))=true then ((dL.f k (gW DC A B).f0 (gW DC A B).f1 (gW DC A B).f2 (gW DC A B).f3).bind fun t16=>(some ((⟨t16.f0,t16.f1,t16.f2,t16.f3⟩:Fm),(0:Int)))) else (if (decide (aa=3))=true then some (noF,3) else some (noF,51)))) v →
      Ev (fun k=>dM.f k p c core odd p' c' fq jA) v:=fun v hv=>by
    unfold dM.f;refine Ev.bind ca (Ev.bind cb (Ev.bind c1 (Ev.no (by simp) (Ev.bind od (Ev.bind d1 (Ev.no (by simp) (Ev.bind e1 (Ev.no (by simp) ?_))))))));unfold dM.l0;have k2:=l2 (iW A B).length 0 (by omega) (by omega) (fun k ab=>(dI.f k (gW DC A B).f0 (gW DC A B).f1 (gW DC A B).f2 ab).bind fun aa=>(if (decide (aa=0))=true then ((dL.f k (gW DC A B).f0 (gW DC A B).f1 (gW DC A B).f2 ab).bind fun t16=>(some ((⟨t16.f0,t16.f1,t16.f2,t16.f3⟩:Fm),(0:Int)))) else (if (decide (aa=3))=true then some (noF,3) else some (noF,51)))) v hv;have k1:=l1 ((List.range (nF A B)).map (fun (i:Nat)=>(⟨bF A (i:Int),bF B (i:Int)⟩:P2))) (by simp;omega) _ 0 rfl (by omega) (fun k ac=>dM.l2 (fun ab=>(dI.f k (gW DC A B).f0 (gW DC A B).f1 ac ab).bind fun aa=>(if (decide (aa=0))=true then ((dL.f k (gW DC A B).f0 (gW DC A B).f1 ac ab).bind fun t16=>(some ((⟨t16.f0,t16.f1,t16.f2,t16.f3⟩:Fm),(0:Int)))) else (if (decide (aa=3))=true then some (noF,3) else some (noF,51)))) (iW A B) ((iW A B).map fun i=>(⟨(vF A i).1,(vF B i).1⟩:P2)) (((iW A B).map fun i=>(⟨(vF A i).1,(vF B i).1⟩:P2)).length:Int) k 0 []) v (by rw [hml];exact k2);simp only [hll] at k1 ⊢;exact k1
  by_cases hg:grF (gW DC A B)
  · have he:e=0:=f4.2 ⟨by omega,hg⟩
    subst he;obtain ⟨h,h1,h2⟩:=kN (p:=(gW DC A B).f0) (c:=(gW DC A B).f1) (core:=(gW DC A B).f2) (odd:=(gW DC A B).f3) hg.s;have r1:=fin (h,0) (Ev.bind f1 (Ev.yes rfl (Ev.bind h1 (Ev.now _))));exact ⟨_,r1,fun hh=>absurd hal hh,fun _=>⟨fun hh=>absurd hg hh,fun _=>⟨h,h2,rfl⟩⟩⟩
  · have he:e=50:=by
      rcases f2 with e' | e' | e'
      · exact absurd (f4.1 e').2 hg
      · exact absurd (f3.1 e') (by omega)
      · exact e'
    subst he;have r1:=fin (noF,51) (Ev.bind f1 (Ev.no (by simp) (Ev.no (by simp) (Ev.now _))));exact ⟨_,r1,fun hh=>absurd hal hh,fun _=>⟨fun _=>rfl,fun hh=>absurd hh hg⟩⟩
theorem afe {p c p' c':Int} {core fq:List (List Sp)} {odd jA:List Gn} {A B:Fm} (ca:Ev (fun k=>dL.f k p c core odd) A) (cb:Ev (fun k=>dL.f k p' c' fq jA) B) (H:OfH A B) (hs:lM (gW DL A B).f2 (gW DL A B).f3≤60000) :
    ∃ r,Ev (fun k=>dJ.f k p c core odd p' c' fq jA) r∧OfS DL A B r:=by
  obtain ⟨r1,c1,c2,c3⟩:=uP H;have hn:=H.n;have ho:=H.o;have hil:=l5 A B;unfold dJ.f;by_cases hf:oI A B
  case neg =>
    have:=c3 hf;subst this;exact ⟨_,Ev.bind ca (Ev.bind cb (Ev.bind c1 (Ev.yes (by simp) (Ev.now _)))),fun _=>rfl,fun h=>absurd h.1 hf⟩
  have:=c2 hf;subst this;obtain ⟨b1,d1,d2⟩:=nC ((List.range (nF A B)).map (fun (i:Nat)=>(⟨bF A (i:Int),bF B (i:Int)⟩:P2))) (by simp;omega) (fun q hq=>by
    obtain ⟨i,_,rfl⟩:=List.mem_map.1 hq;exact oJ H.sa _)
  obtain ⟨b2,e1,e2⟩:=nC ((iW A B).map fun i=>(⟨(vF A i).1,(vF B i).1⟩:P2)) (by simp;omega) (fun q hq=>by
    obtain ⟨i,_,rfl⟩:=List.mem_map.1 hq;exact kg H.sa _)
  have od:=x9 H;cases b1 with
  | false =>
    refine ⟨_,Ev.bind ca (Ev.bind cb (Ev.bind c1 (Ev.no (by simp) (Ev.bind od (Ev.bind d1 (Ev.yes rfl (Ev.now _))))))),fun _=>rfl,fun h => ?_⟩;exact absurd (d2.2 fun q hq=>by
      obtain ⟨i,hi,rfl⟩:=List.mem_map.1 hq;exact h.2.1 i (List.mem_range.1 hi)) (by simp)
  | true =>
  cases b2 with
  | false =>
    refine ⟨_,Ev.bind ca (Ev.bind cb (Ev.bind c1 (Ev.no (by simp) (Ev.bind od (Ev.bind d1 (Ev.no (by simp) (Ev.bind e1 (Ev.yes rfl (Ev.now _))))))))),fun _=>rfl,fun h => ?_⟩;exact absurd (e2.2 fun q hq=>by
      obtain ⟨i,hi,rfl⟩:=List.mem_map.1 hq;exact h.2.2 i hi) (by simp)
  | true =>
  have hal:oK A B:=⟨hf,fun i hi=>d2.1 rfl _ (List.mem_map.2 ⟨i,List.mem_range.2 hi,rfl⟩),fun i hi=>e2.1 rfl _ (List.mem_map.2 ⟨i,hi,rfl⟩)⟩;have m:MF (gW DL A B).f2 (gW DL A B).f3:=by
    refine ⟨fun l hl => ?_,fun g hg => ?_⟩
    · obtain ⟨i,_,rfl⟩:=List.mem_map.1 hl
      have q1:=oJ H.sa (i:Int);have q2:=oJ H.sb (i:Int);rcases agP (bF A (i:Int)) (bF B (i:Int)) with e | e | e
      · rw [e];omega
      · rw [e];omega
      · rw [e];simp
    · obtain ⟨i,_,rfl⟩:=List.mem_map.1 hg
      have q1:(vF A i).1.length≤4611686018427387904:=kg H.sa i;have q2:(vF B i).1.length≤4611686018427387904:=kg H.sb i;show (DL (vF A i).1 (vF B i).1).length≤_;rcases agP (vF A i).1 (vF B i).1 with e | e | e
      · rw [e];omega
      · rw [e];omega
      · rw [e];simp
  obtain ⟨n,⟨_,g2⟩,e,f1,f2,f3,f4⟩:=mM (p:=(gW DL A B).f0) (c:=(gW DL A B).f1) m (by simp [gW];omega) (by simp [gW];omega);have hne:=g2 (by omega);have l1:∀ (L:List P2),L.length≤6000→∀ (d j:Nat),L.length - j=d→j≤L.length→∀ (X:Nat→List (List Sp)→Option (Fm × Int)) (v:Fm × Int),Ev (fun k=>X k (L.map fun q=>DL q.f0 q.f1)) v→Ev (fun k=>dJ.l1 (X k) L (L.length:Int) k (j:Int) ((L.take j).map fun q=>DL q.f0 q.f1)) v:=by
    intro L hL d;induction d with
    | zero =>
      intro j hd hj X v hX;obtain rfl:j=L.length:=by omega
      refine Ev.step (f:=fun k=>X (k+1) (L.map fun q=>DL q.f0 q.f1)) (fun k => ?_) (Ev.shift hX);have c1:¬ (L.length:Int)<(L.length:Int):=by omega
      simp only [dJ.l1,dJ.l1T,decide_eq_true_eq,c1,if_false,List.take_length]
    | succ d ih =>
      intro j hd hj X v hX;have hj':j<L.length:=by omega
      have c1:(j:Int)<(L.length:Int):=by omega
      have c2:(0:Int)≤(j:Int):=by omega
      have hw:=nx c1 c2 (by omega);refine Ev.step (fun k=>rfl) ?_;simp only [dJ.l1,dJ.l1T,decide_eq_true_eq,c1,c2,if_true,hw,rdP _ j hj',agv,Option.bind_some];have hlen:((L.take j).map fun q=>DL q.f0 q.f1).length+1≤5864062014805:=by simp;omega
      refine Ev.yes hlen ?_;have:=ih (j+1) (by omega) (by omega) (fun k=>X (k+1)) v (Ev.shift hX);rw [List.take_succ_eq_append_getElem hj',List.map_append] at this;exact this
  have l2:∀ (d j:Nat),(iW A B).length - j=d→j≤(iW A B).length→∀ (X:Nat→List Gn→Option (Fm × Int)) (v:Fm × Int),Ev (fun k=>X k (gW DL A B).f3) v→Ev (fun k=>dJ.l2 (X k) (iW A B) ((iW A B).map fun i=>(⟨(vF A i).1,(vF B i).1⟩:P2)) (((iW A B).map fun i=>(⟨(vF A i).1,(vF B i).1⟩:P2)).length:Int) k (j:Int) (((iW A B).take j).map fun i=>⟨i,DL (vF A i).1 (vF B i).1⟩)) v:=by
    intro d;have hml:((iW A B).map fun i=>(⟨(vF A i).1,(vF B i).1⟩:P2)).length=(iW A B).length:=by simp
    induction d with
    | zero =>
      intro j hd hj X v hX;obtain rfl:j=(iW A B).length:=by omega
      refine Ev.step (f:=fun k=>X (k+1) (gW DL A B).f3) (fun k => ?_) (Ev.shift hX);have c1:¬ ((iW A B).length:Int)<((iW A B).length:Int):=by omega
      simp only [dJ.l2,dJ.l2T,decide_eq_true_eq,hml,c1,if_false,List.take_length];rfl
    | succ d ih =>
      intro j hd hj X v hX;have hj':j<(iW A B).length:=by omega
      have c1:(j:Int)<((iW A B).length:Int):=by omega
      have c2:(0:Int)≤(j:Int):=by omega
      have hw:=nx c1 c2 (by omega);refine Ev.step (fun k=>rfl) ?_;simp only [dJ.l2,dJ.l2T,decide_eq_true_eq,hml,c1,c2,if_true,hw,rdP _ j (show j<((iW A B).map fun i=>(⟨(vF A i).1,(vF B i).1⟩:P2)).length by rw [hml];exact hj'),rdI _ j hj',agv,Option.bind_some,List.getElem_map];have hlen:(((iW A B).take j).map fun i=>(⟨i,DL (vF A i).1 (vF B i).1⟩:Gn)).length+1≤4398046511104:=by simp;omega
      refine Ev.yes hlen ?_;have:=ih (j+1) (by omega) (by omega) (fun k=>X (k+1)) v (Ev.shift hX);rw [List.take_succ_eq_append_getElem hj',List.map_append,hml] at this;exact this
  have hml:(((List.range (nF A B)).map (fun (i:Nat)=>(⟨bF A (i:Int),bF B (i:Int)⟩:P2))).map fun q=>DL q.f0 q.f1)=(gW DL A B).f2:=by
    simp [gW,List.map_map,Function.comp_def]
  have hll:((((List.range (nF A B)).map (fun (i:Nat)=>(⟨bF A (i:Int),bF B (i:Int)⟩:P2)))).length:Int)=(gW DL A B).f1:=by simp [gW]
  have fin:∀ v,Ev (fun k=>(dI.f k (gW DL A B).f0 (gW DL A B).f1 (gW DL A B).f2 (gW DL A B).f3).bind fun aa=>(if (decide (aa=0))=true then ((dL.f k (gW DL A B).f0 (gW DL A B).f1 (gW DL A B).f2 (gW DL A B).f3).bind fun t16=>(some ((⟨t16.f0,t16.f1,t16.f2,t16.f3⟩:Fm),(0:Int)))) else (if (decide (aa=3))=true then some (noF,3) else some (noF,51)))) v →
      Ev (fun k=>dJ.f k p c core odd p' c' fq jA) v:=fun v hv=>by
    unfold dJ.f;refine Ev.bind ca (Ev.bind cb (Ev.bind c1 (Ev.no (by simp) (Ev.bind od (Ev.bind d1 (Ev.no (by simp) (Ev.bind e1 (Ev.no (by simp) ?_))))))));unfold dJ.l0;have k2:=l2 (iW A B).length 0 (by omega) (by omega) (fun k ab=>(dI.f k (gW DL A B).f0 (gW DL A B).f1 (gW DL A B).f2 ab).bind fun aa=>(if (decide (aa=0))=true then ((dL.f k (gW DL A B).f0 (gW DL A B).f1 (gW DL A B).f2 ab).bind fun t16=>(some ((⟨t16.f0,t16.f1,t16.f2,t16.f3⟩:Fm),(0:Int)))) else (if (decide (aa=3))=true then some (noF,3) else some (noF,51)))) v hv;have k1:=l1 ((List.range (nF A B)).map (fun (i:Nat)=>(⟨bF A (i:Int),bF B (i:Int)⟩:P2))) (by simp;omega) _ 0 rfl (by omega) (fun k ac=>dJ.l2 (fun ab=>(dI.f k (gW DL A B).f0 (gW DL A B).f1 ac ab).bind fun aa=>(if (decide (aa=0))=true then ((dL.f k (gW DL A B).f0 (gW DL A B).f1 ac ab).bind fun t16=>(some ((⟨t16.f0,t16.f1,t16.f2,t16.f3⟩:Fm),(0:Int)))) else (if (decide (aa=3))=true then some (noF,3) else some (noF,51)))) (iW A B) ((iW A B).map fun i=>(⟨(vF A i).1,(vF B i).1⟩:P2)) (((iW A B).map fun i=>(⟨(vF A i).1,(vF B i).1⟩:P2)).length:Int) k 0 []) v (by rw [hml];exact k2);simp only [hll] at k1 ⊢;exact k1
  by_cases hg:grF (gW DL A B)
  · have he:e=0:=f4.2 ⟨by omega,hg⟩
    subst he;obtain ⟨h,h1,h2⟩:=kN (p:=(gW DL A B).f0) (c:=(gW DL A B).f1) (core:=(gW DL A B).f2) (odd:=(gW DL A B).f3) hg.s;have r1:=fin (h,0) (Ev.bind f1 (Ev.yes rfl (Ev.bind h1 (Ev.now _))));exact ⟨_,r1,fun hh=>absurd hal hh,fun _=>⟨fun hh=>absurd hg hh,fun _=>⟨h,h2,rfl⟩⟩⟩
  · have he:e=50:=by
      rcases f2 with e' | e' | e'
      · exact absurd (f4.1 e').2 hg
      · exact absurd (f3.1 e') (by omega)
      · exact e'
    subst he;have r1:=fin (noF,51) (Ev.bind f1 (Ev.no (by simp) (Ev.no (by simp) (Ev.now _))));exact ⟨_,r1,fun hh=>absurd hal hh,fun _=>⟨fun _=>rfl,fun hh=>absurd hh hg⟩⟩
end Go.Proofs.YtcomnjodjijcmaaGreat.Q
namespace Go.Proofs.YtcomnjodjijcmaaGreat.Q
set_option linter.unusedVariables false
set_option linter.unusedSimpArgs false
open Go.RowKit Go.Proofs.YtcomnjodjijcmaaGreatW.dA Go.Proofs.YtcomnjodjijcmaaGreatW.eD M R P
section
theorem acf {l:List Int} {x:Int}:x∈kG l↔x∈l:=(ng l).mem_iff
theorem qd (zs:List Int) (j:Nat) (h:j<zs.length):zs.toArray[j]! = zs[j]:=by simp [h]
theorem aaC {zs:List Int} (h:zs.Pairwise (· ≤ ·)):(jc zs).Pairwise (· < ·):=by
  unfold jc Lib.compact Lib.compactUpTo;rw [List.pairwise_map];refine List.Pairwise.imp_of_mem (R:=(· < ·)) (fun {i j} hi hj hij => ?_) (List.pairwise_lt_range.filter _);have hi':=List.mem_range.1 (List.mem_filter.1 hi).1;obtain ⟨hj1,hj2⟩:=List.mem_filter.1 hj;have hj':=List.mem_range.1 hj1;rw [qd zs i hi',qd zs j hj'];have hk:zs.toArray[j]! ≠ zs.toArray[j - 1]! := by
    have:j=0∨zs.toArray[j]! ≠ zs.toArray[j - 1]! := of_decide_eq_true hj2;rcases this with e | e
    · omega
    · exact e
  rw [qd zs j hj',qd zs (j - 1) (by omega)] at hk;have h1:zs[j - 1]'(by omega)≤zs[j]:=List.pairwise_iff_getElem.1 h (j - 1) j (by omega) hj' (by omega);have h2:zs[i]≤zs[j - 1]'(by omega):=by
    rcases Nat.lt_or_ge i (j - 1) with g | g
    · exact List.pairwise_iff_getElem.1 h i (j - 1) hi' (by omega) g
    · have:i=j - 1:=by omega
      subst this;exact Int.le_refl _
  omega
theorem yc {zs:List Int} {x:Int}:x∈jc zs↔x∈zs:=by
  unfold jc Lib.compact Lib.compactUpTo;rw [List.mem_map];constructor
  · rintro ⟨j,hj,rfl⟩
    have hj':=List.mem_range.1 (List.mem_filter.1 hj).1;rw [qd zs j hj'];exact List.getElem_mem hj'
  · intro hx
    obtain ⟨j0,hj0,e0⟩:=List.mem_iff_getElem.1 hx;obtain ⟨j,⟨hj,e⟩,hm⟩:=least (P:=fun j=>∃ h:j<zs.length,zs[j]=x) j0 ⟨hj0,e0⟩;refine ⟨j,List.mem_filter.2 ⟨List.mem_range.2 hj,decide_eq_true ?_⟩,by rw [qd zs j hj];exact e⟩;rcases Nat.eq_zero_or_pos j with g | g
    · exact .inl g
    · right
      rw [qd zs j hj,qd zs (j - 1) (by omega),e];exact fun e2=>hm (j - 1) (by omega) ⟨by omega,e2.symm⟩
theorem ad8 (A B:Fm):(iW A B).Pairwise (· < ·):=aaC (uj _)
theorem pJ {A B:Fm} {i:Int}:i∈iW A B↔(∃ g∈A.f3,g.f0=i)∨∃ g∈B.f3,g.f0=i:=by
  unfold iW;rw [yc,acf,List.mem_map];constructor
  · rintro ⟨g,hg,rfl⟩
    rcases List.mem_append.1 hg with h | h
    · exact .inl ⟨g,h,rfl⟩
    · exact .inr ⟨g,h,rfl⟩
  · rintro (⟨g,hg,rfl⟩ | ⟨g,hg,rfl⟩)
    · exact ⟨g,List.mem_append_left _ hg,rfl⟩
    · exact ⟨g,List.mem_append_right _ hg,rfl⟩
def gF (A:Fm) (i:Int):List Sp:=gT A.f0 A.f1 A.f2 A.f3 i
def cnF (A:Fm):Prop:=Can A.f0 A.f1 A.f2 A.f3
theorem kH {A:Fm} {i:Int} (h:∀ g∈A.f3,g.f0≠i):gF A i=bF A i:=by
  unfold gF bF;rw [lq (jv.2 h),oH]
theorem acg {A B:Fm} (a:cnF A) (b:cnF B) (eq:∀ i,gF A i=gF B i):A=B:=by
  have key:=afc a b (x:=1099511627776) (L:=2*((B.f2.length*A.f2.length:Nat):Int)+A.f2.length+B.f2.length) (by omega) (by omega) (by omega) (fun i h1 h2=>by
    have:=eq i;rw [kH (fun g hg e=>by have:=(a.s.hidx g hg).2;omega),kH (fun g hg e=>by have:=(b.s.hidx g hg).2;omega)] at this;exact this) (fun i _=>kP (eq i))
  obtain ⟨e0,e1,e2,e3⟩:=key;cases A;cases B;simp only at e0 e1 e2 e3;subst e0;subst e1;subst e2;subst e3;rfl
theorem ach:cnF noF:=⟨⟨rfl,Int.le_refl _,by decide,by simp [noF],by simp [noF],by simp [noF],by simp [noF],by simp [noF],by simp [noF],by simp [noF]⟩,fun d h=>by simp [noF] at h,fun h=>absurd rfl h,fun g hg=>by simp [noF] at hg⟩
theorem agw (i:Int):gF noF i=[]:=rfl
theorem nM {A:Fm} (h:A.f2=[]) (i:Int):bF A i=[]:=ab9 h
theorem wJ {a b:Nat} (ha:a≠0):a ∣ rn a b:=by
  unfold rn;rw [if_neg ha];split
  · exact Nat.dvd_refl _
  · exact Nat.dvd_lcm_left a b
theorem agx {A B:Fm} (h:sfF A):A.f2≠[]→Stp (bF A) (nF A B) (tF A B):=fun hne=>by
  have hl:A.f2.length≠0:=fun e=>hne (List.length_eq_zero_iff.1 e);have s:=xY (kX h (by omega)) (nF A B / A.f2.length);have e1:nF A B / A.f2.length*A.f2.length=nF A B:=Nat.div_mul_cancel (wJ hl);have e2:((nF A B / A.f2.length:Nat):Int)*A.f0=tF A B:=by
    unfold tF rt;rw [if_neg hl,Int.mul_comm];rfl
  rw [e1,e2] at s;exact s
theorem aci {B:Int→List Sp} (h:∀ i,B i=[]) (n:Nat) (t:Int):Stp B n t:=fun i=>by rw [h,h];rfl
theorem agy {A B:Fm} (ha:sfF A) (hb:sfF B) (h:A.f2=[]):tF A B=tF B A:=by
  have h0:A.f2.length=0:=by rw [h];rfl
  have q0:A.f0=0:=ha.hz.1 (by rw [ha.hc,h0];rfl);by_cases hB:B.f2.length=0
  · have q1:B.f0=0:=hb.hz.1 (by rw [hb.hc,hB];rfl)
    unfold tF rt;rw [if_pos h0,if_pos hB,q0,q1]
  · unfold tF rt rn
    rw [if_pos h0,if_neg hB,if_neg hB,if_pos h0,Nat.div_self (by omega)];simp
theorem uQ {A B:Fm} (ha:sfF A) (hb:sfF B) (hf:oI A B):Stp (bF A) (nF A B) (tF A B)∧Stp (bF B) (nF A B) (tF A B):=by
  constructor
  · by_cases e:A.f2=[]
    · exact aci (nM e) _ _
    · exact agx ha e
  · by_cases e:B.f2=[]
    · exact aci (nM e) _ _
    · have:=agx (B:=A) hb e
      rw [pI B A] at this;have et:tF B A=tF A B:=by
        rcases hf with g | g | g
        · exact (agy ha hb g).symm
        · exact absurd g e
        · exact g.symm
      rwa [et] at this
theorem uR {a b:Nat} (h:rn a b=0):a=0∧b=0:=by
  unfold rn at h;split at h
  · exact ⟨by assumption,h⟩
  · split at h
    · exact ⟨h,by assumption⟩
    · have:=Nat.lcm_pos (m:=a) (n:=b) (by omega) (by omega)
      omega
structure zH (D:List Sp→List Sp→List Sp):Prop where
  one:oneOf D
  sh:∀ n x y,D (x.map (fG n)) (y.map (fG n))=(D x y).map (fG n)
theorem aff:zH DU:=⟨agN,fun n x y=>by
  unfold DU;by_cases h:x=[]
  · rw [if_pos h,if_pos (by rw [h];rfl)]
  · rw [if_neg h,if_neg (by simpa using h)]⟩
theorem wK:zH DC:=⟨agO,fun n x y=>by
  unfold DC;by_cases h:y=[]
  · rw [if_pos h,if_pos (by rw [h];rfl)];rfl
  · rw [if_neg h,if_neg (by simpa using h)]⟩
theorem afg:zH DL:=⟨agP,fun n x y=>by
  unfold DL;by_cases h:y=[]
  · rw [if_pos h,if_pos (by rw [h];rfl)]
  · rw [if_neg h,if_neg (by simpa using h)];rfl⟩
theorem zH.nil {D:List Sp→List Sp→List Sp} (h:zH D):D [] []=[]:=by
  rcases h.one [] [] with e | e | e <;> exact e
theorem zI {D:List Sp→List Sp→List Sp} (hD:zH D) {A B:Fm} (ha:sfF A) (hb:sfF B) (hf:oI A B) (i:Int):bF (gW D A B) i=D (bF A i) (bF B i):=by
  by_cases hn:nF A B=0
  · obtain ⟨e1,e2⟩:=uR hn
    have z1:A.f2=[]:=List.length_eq_zero_iff.1 e1;have z2:B.f2=[]:=List.length_eq_zero_iff.1 e2;rw [nM z1,nM z2,hD.nil];refine nM ?_ i;show (List.range (nF A B)).map _=[];rw [hn];rfl
  · obtain ⟨s1,s2⟩:=uQ ha hb hf
    have q1:=Int.emod_nonneg i (show (nF A B:Int)≠0 by omega);have q2:=Int.emod_lt_of_pos i (show (0:Int)<(nF A B:Int) by omega);have q3:i % (nF A B:Int)+i / (nF A B:Int)*(nF A B:Int)=i:=by
      have:=Int.emod_add_mul_ediv i (nF A B:Int);rw [Int.mul_comm] at this;exact this
    have e1:=mQ s1 (i % (nF A B:Int)) (i / (nF A B:Int));have e2:=mQ s2 (i % (nF A B:Int)) (i / (nF A B:Int));rw [q3] at e1 e2;rw [e1,e2,hD.sh];show (gJ (nF A B:Int) ((List.range (nF A B)).map (fun (i:Nat)=>D (bF A (i:Int)) (bF B (i:Int)))) i).map (fG (i / (nF A B:Int)*tF A B))=_;unfold gJ;rw [if_neg (by omega)];have hlt:(i % (nF A B:Int)).toNat<nF A B:=by omega
    have hco:(((i % (nF A B:Int)).toNat:Nat):Int)=i % (nF A B:Int):=by omega
    rw [List.getD_eq_getElem?_getD,List.getElem?_map,List.getElem?_range hlt];simp only [Option.map_some,Option.getD_some,hco]
theorem afh {D:List Sp→List Sp→List Sp} {A B:Fm} {i:Int} (hi:i∈iW A B):jh (gW D A B).f3 i=some (D (vF A i).1 (vF B i).1):=by
  have hu:(gW D A B).f3.Pairwise (fun a b=>a.f0<b.f0):=by
    show ((iW A B).map fun i=>(⟨i,D (vF A i).1 (vF B i).1⟩:Gn)).Pairwise _;rw [List.pairwise_map];exact ad8 A B
  exact lJ hu (g:=⟨i,D (vF A i).1 (vF B i).1⟩) (List.mem_map.2 ⟨i,hi,rfl⟩)
theorem sS {D:List Sp→List Sp→List Sp} (hD:zH D) {A B:Fm} (ha:sfF A) (hb:sfF B) (hf:oI A B) (va:∀ i∈iW A B,(vF A i).1=gF A i) (vb:∀ i∈iW A B,(vF B i).1=gF B i) (i:Int):gF (gW D A B) i=D (gF A i) (gF B i):=by
  by_cases hi:i∈iW A B
  · have:=afh (D:=D) hi
    have e:gF (gW D A B) i=D (vF A i).1 (vF B i).1:=nU this;rw [e,va i hi,vb i hi]
  · have h1:∀ g∈A.f3,g.f0≠i:=fun g hg e=>hi (pJ.2 (.inl ⟨g,hg,e⟩))
    have h2:∀ g∈B.f3,g.f0≠i:=fun g hg e=>hi (pJ.2 (.inr ⟨g,hg,e⟩));have h3:∀ g∈(gW D A B).f3,g.f0≠i:=fun g hg e=>by
      obtain ⟨j,hj,rfl⟩:=List.mem_map.1 hg;exact hi (e ▸ hj)
    rw [kH h1,kH h2,kH h3,zI hD ha hb hf]
end
end Go.Proofs.YtcomnjodjijcmaaGreat.Q
namespace Go.Proofs.YtcomnjodjijcmaaGreat.Q
set_option linter.unusedVariables false
set_option linter.unusedSimpArgs false
open Go.RowKit Go.Proofs.YtcomnjodjijcmaaGreatW.dA Go.Proofs.YtcomnjodjijcmaaGreatW.eD M R P
section
variable {p c:Int} {core:List (List Sp)} {odd:List Gn}
theorem mR.wL (w:mR p c core odd) {i:Int} (hi : -6000≤i∧i≤6000):jJ p c core odd i=(gT p c core odd i,0):=by
  by_cases hz:fs c core odd i=[]
  · have e:gT p c core odd i=[]:=by unfold gT;rw [hz];rfl
    rw [mP,if_pos (by unfold inR;omega),if_pos e,e]
  · exact w.ok.s.pF (w.ex hi hz)
theorem mR.bare (w:mR p c core odd) {i:Int} (hi:100<i):gT p c core odd i=bT p c core i:=by
  rw [← oH];exact lq (jv.2 (fun g hg e=>by have:=(w.ho g hg).1;omega))
end
end Go.Proofs.YtcomnjodjijcmaaGreat.Q
namespace Go.Proofs.YtcomnjodjijcmaaGreat.Q
set_option linter.unusedVariables false
set_option linter.unusedSimpArgs false
open Go.RowKit Go.Proofs.YtcomnjodjijcmaaGreatW.dA Go.Proofs.YtcomnjodjijcmaaGreatW.eD M R P
section
def okL (l:List Sp):Prop:=∀ s∈l,-100000000≤s.f0∧s.f1≤100000000
theorem acj:okL []:=fun s h=>by simp at h
structure NF (A:Fm):Prop where
  cn:cnF A
  gr:grF A
  lc:A.f2.length≤144
  lo:A.f3.length≤16
  hp:A.f0≤10000
  ix:∀ g∈A.f3,-100≤g.f0∧g.f0≤100
  tk:∀ i,-6000≤i→i≤6000→okL (gF A i)
  tb:∀ i,-6000≤i→i≤6000→okL (bF A i)
  ln:∀ i,(gF A i).length≤60
  lb:∀ i,(bF A i).length≤60
theorem SL.tight {lo hi lo' hi':Int}:∀ {l:List Sp},SL lo hi l→(∀ s∈l,lo'≤s.f0∧s.f1≤hi')→SL lo' hi' l
  | [],_,_=>trivial
  | s :: r,⟨h1,h2,h3,h4⟩,h=>⟨(h s (by simp)).1,h2,(h s (by simp)).2,SL.tight h4 (fun t ht=>⟨(SL.ticks h4 ht).1,(h t (by simp [ht])).2⟩)⟩
theorem afi {A:Fm} (h:sfF A) {i:Int} (hk:okL (gF A i)):SL (-1099511627776) 1099511627776 (gF A i):=by
  have:=SL.shift (lo:=0) (fb A.f0 A.f1 A.f3 i) (h.uy i);exact SL.tight this (fun s hs=>by have:=hk s hs;omega)
theorem agz {A:Fm} (h:sfF A) {i:Int} (hk:okL (bF A i)):SL (-1099511627776) 1099511627776 (bF A i):=by
  have e:bF A i=gT A.f0 A.f1 A.f2 [] i:=(oH i).symm;rw [e] at hk ⊢;have:=SL.shift (lo:=0) (fb A.f0 A.f1 [] i) (h.abN.uy i);exact SL.tight this (fun s hs=>by have:=hk s hs;omega)
theorem agA {A:Fm} (h:sfF A) {i:Int} (hr:inR i) (hk:okL (gF A i)):vF A i=(gF A i,0):=by
  unfold vF;rw [mP,if_pos hr];by_cases hn:gT A.f0 A.f1 A.f2 A.f3 i=[]
  · rw [if_pos hn]
    unfold gF;rw [hn]
  · rw [if_neg hn]
    unfold mvT;rw [if_pos]
    · rfl
    · refine List.all_eq_true.2 fun s hs=>rD.2 ?_
      have:=hk s hs;have:=SL.ticks (afi h hk) hs;omega
theorem l6 {i:Int} (h : -100000000≤i∧i≤100000000):inR i:=by unfold inR;omega
theorem NF.v {A:Fm} (h:NF A) {i:Int} (h1 : -6000≤i) (h2:i≤6000):vF A i=(gF A i,0):=agA h.cn.s (l6 (by omega)) (h.tk i h1 h2)
theorem NF.ga {A:Fm} (h:NF A):A.f2≠[]→∃ l∈A.f2,l≠[]:=fun hn=>Classical.byContradiction fun hx=>h.cn.nb hn fun l hl=>Classical.byContradiction fun hl2=>hx ⟨l,hl,hl2⟩
theorem kY {A B:Fm} (a:NF A) (b:NF B):∀ i∈iW A B,-100≤i∧i≤100:=fun i hi=>by
  rcases pJ.1 hi with ⟨g,hg,rfl⟩ | ⟨g,hg,rfl⟩
  · exact a.ix g hg
  · exact b.ix g hg
theorem afj {A B:Fm} (a:NF A) (b:NF B) (hn:nF A B≤144):0≤tF A B∧tF A B≤1440000:=by
  have p1:=a.cn.s.hp0;have p2:=b.cn.s.hp0;have q1:=a.hp;have q2:=b.hp;unfold tF rt;split
  · omega
  · have hq:rn A.f2.length B.f2.length / A.f2.length≤144:=Nat.le_trans (Nat.div_le_self _ _) hn
    generalize rn A.f2.length B.f2.length / A.f2.length=q at hq;have h1:A.f0*(q:Int)≤10000*(q:Int):=Int.mul_le_mul_of_nonneg_right q1 (by omega);have h2:0≤A.f0*(q:Int):=Int.mul_nonneg p1 (by omega);omega
theorem NF.of {A B:Fm} (a:NF A) (b:NF B) (hn:nF A B≤144):OfH A B:=by
  have t1:=afj a b hn;have t2:=afj b a (by rw [pI];exact hn);have:=a.lo;have:=b.lo;have:=a.hp;have:=b.hp;exact ⟨a.cn.s,b.cn.s,a.ga,b.ga,by omega,by omega,by omega,by omega,by omega,fun i h1 h2 s hs=>by have:=a.tb i (by omega) (by omega) s hs;omega,fun i h1 h2 s hs=>by have:=b.tb i (by omega) (by omega) s hs;omega,by omega⟩
theorem oneOf.ok {D:List Sp→List Sp→List Sp} (h:oneOf D) {P:List Sp→Prop} (h0:P []) {x y:List Sp} (hx:P x) (hy:P y):P (D x y):=by
  rcases h x y with e | e | e
  · rw [e];exact hx
  · rw [e];exact hy
  · rw [e];exact h0
theorem qy {D:List Sp→List Sp→List Sp} (hD:zH D) {A B:Fm} (a:NF A) (b:NF B) (hn:nF A B≤144):lM (gW D A B).f2 (gW D A B).f3≤60000:=by
  have h1:(((gW D A B).f2).map fun l=>(l.length:Int)).sum≤((gW D A B).f2.length:Int)*60:=wI _ 60 (fun l hl=>by
    obtain ⟨i,_,rfl⟩:=List.mem_map.1 hl;have aa:(D (bF A (i:Int)) (bF B (i:Int))).length≤60:=hD.one.ok (P:=fun l=>l.length≤60) (by simp) (a.lb (i:Int)) (b.lb (i:Int));show ((D (bF A (i:Int)) (bF B (i:Int))).length:Int)≤60;omega)
  have h2:(((gW D A B).f3).map fun g=>(g.f1.length:Int)).sum≤((gW D A B).f3.length:Int)*60:=wI _ 60 (fun g hg=>by
    obtain ⟨i,hi,rfl⟩:=List.mem_map.1 hg;have hr:=kY a b i hi;have e1:=a.v (i:=i) (by omega) (by omega);have e2:=b.v (i:=i) (by omega) (by omega);have aa:(D (gF A i) (gF B i)).length≤60:=hD.one.ok (P:=fun l=>l.length≤60) (by simp) (a.ln i) (b.ln i);show ((D (vF A i).1 (vF B i).1).length:Int)≤60;rw [e1,e2];show ((D (gF A i) (gF B i)).length:Int)≤60;omega)
  have l1:(gW D A B).f2.length=nF A B:=by simp [gW]
  have l2:(gW D A B).f3.length=(iW A B).length:=by simp [gW]
  have:=l5 A B;have:=a.lo;have:=b.lo;have e:lM (gW D A B).f2 (gW D A B).f3=(((gW D A B).f2).map fun l=>(l.length:Int)).sum+(((gW D A B).f3).map fun g=>(g.f1.length:Int)).sum:=rfl;rw [e];rw [l1] at h1;rw [l2] at h2;omega
theorem rO {D:List Sp→List Sp→List Sp} (hD:zH D) {A B:Fm} (a:NF A) (b:NF B) (hn:nF A B≤144):sfF (gW D A B):=by
  have t1:=afj a b hn;have l1:(gW D A B).f2.length=nF A B:=by simp [gW]
  have l2:(gW D A B).f3.length=(iW A B).length:=by simp [gW]
  have hil:=l5 A B;have:=a.lo;have:=b.lo;refine ⟨by rw [l1];rfl,t1.1,by show tF A B≤_;omega,?_,fun l hl => ?_,fun g hg => ?_,fun g hg => ?_,?_,by omega,by omega⟩
  · show (nF A B:Int)=0↔tF A B=0
    constructor
    · intro h
      obtain ⟨e1,e2⟩:=uR (show rn A.f2.length B.f2.length=0 from by have h:(nF A B:Int)=0:=h;unfold nF at h;omega);unfold tF rt;rw [if_pos e1];exact b.cn.s.hz.1 (by rw [b.cn.s.hc,e2];rfl)
    · intro h
      refine Classical.byContradiction fun hne => ?_;unfold tF rt at h;split at h
      · rename_i e1
        have hb:(B.f2.length:Int)=0:=by rw [← b.cn.s.hc];exact b.cn.s.hz.2 h
        exact hne (by unfold nF rn;rw [if_pos e1];exact hb)
      · rename_i e1
        have hq:1≤rn A.f2.length B.f2.length / A.f2.length:=(Nat.one_le_div_iff (by omega)).2 (Nat.le_of_dvd (by have hne:¬ (nF A B:Int)=0:=hne;unfold nF at hne;omega) (wJ e1));have hp:A.f0≠0:=fun e=>e1 (by have:=a.cn.s.hz.2 e;rw [a.cn.s.hc] at this;omega);rcases Int.mul_eq_zero.1 h with e | e
        · exact hp e
        · omega
  · obtain ⟨i,hi,rfl⟩:=List.mem_map.1 hl
    have hi':=List.mem_range.1 hi;exact hD.one.ok (P:=fun l=>SL (-1099511627776) 1099511627776 l) trivial (agz a.cn.s (a.tb _ (by omega) (by omega))) (agz b.cn.s (b.tb _ (by omega) (by omega)))
  · obtain ⟨i,hi,rfl⟩:=List.mem_map.1 hg
    have hr:=kY a b i hi;have e1:=a.v (i:=i) (by omega) (by omega);have e2:=b.v (i:=i) (by omega) (by omega);show SL _ _ (D (vF A i).1 (vF B i).1);rw [e1,e2];exact hD.one.ok (P:=fun l=>SL (-1099511627776) 1099511627776 l) trivial (afi a.cn.s (a.tk _ (by omega) (by omega))) (afi b.cn.s (b.tk _ (by omega) (by omega)))
  · obtain ⟨i,hi,rfl⟩:=List.mem_map.1 hg
    have hr:=kY a b i hi;exact l6 (by simp only;omega)
  · show ((iW A B).map fun i=>(⟨i,D (vF A i).1 (vF B i).1⟩:Gn)).Pairwise _
    rw [List.pairwise_map];exact ad8 A B
def afk (A:Fm):Prop:=∀ i k,i<k→inR i→inR k→gF A i≠[]→gF A k≠[]→lQ (gF A i)<lu (gF A k)
theorem agB {A:Fm} (h:FOK A.f0 A.f1 A.f2 A.f3):afk A:=fun i k hik ri rk hi hk=>by
  have n1:fs A.f1 A.f2 A.f3 i≠[]:=l8.2 hi;have n2:fs A.f1 A.f2 A.f3 k≠[]:=l8.2 hk;have:=h.ord i k hik ri rk n1 n2;have q1:=(kW (p:=A.f0) n1).2.2;have q2:=(kW (p:=A.f0) n2).2.1;unfold gF;omega
theorem adH {O A:Fm} (h:afk A) (hp:∀ i,gF O i=gF A i∨gF O i=[]):afk O:=fun i k hik ri rk hi hk=>by
  rcases hp i with e | e
  · rcases hp k with f | f
    · rw [e,f]
      rw [e] at hi;rw [f] at hk;exact h i k hik ri rk hi hk
    · exact absurd f hk
  · exact absurd e hi
theorem ahQ {O:Fm} (s:sfF O) (hl:O.f2.length≤144) (hix:∀ g∈O.f3,-100≤g.f0∧g.f0≤100) (hk:∀ i,-6000≤i→i≤6000→okL (gF O i)) (h:afk O):grF O:=by
  have hv:∀ i,-6000≤i→i≤6000→vF O i=(gF O i,0):=fun i h1 h2=>agA s (l6 (by omega)) (hk i h1 h2);have far:∀ (q:Int),200≤q→∀ (j:Nat) (hj:j<O.f2.length),gF O (q*O.f1+j)=O.f2[j].map (fG (q*O.f0)):=fun q hq j hj=>by
    have e:bF O (q*O.f1+j)=O.f2[j].map (fG (q*O.f0)):=mO s q j hj;rw [← e];have hc:=s.hc;have h1:200*O.f1≤q*O.f1:=Int.mul_le_mul_of_nonneg_right hq (by omega);exact kH fun g hg e=>by have:=hix g hg;omega
  have hfl:∀ (l:List Sp) (n:Int),l≠[]→lu (l.map (fG n))=lu l+n∧lQ (l.map (fG n))=lQ l+n:=fun l n hn=>by
    induction l with
    | nil=>exact absurd rfl hn
    | cons x r ih =>
      refine ⟨rfl,?_⟩;cases r with
      | nil=>rfl
      | cons y r=>exact (ih (by simp)).2
  have hO:∀ (q q':Int) (j j':Nat) (hj:j<O.f2.length) (hj':j'<O.f2.length),200≤q→q≤201→200≤q'→q'≤201→q*O.f1+j<q'*O.f1+j'→O.f2[j]≠[]→O.f2[j']≠[]→lQ O.f2[j]+q*O.f0<lu O.f2[j']+q'*O.f0:=fun q q' j j' hj hj' a1 a2 b1 b2 hlt n1 n2=>by
    have hc:=s.hc;have u1:0≤q*O.f1:=Int.mul_nonneg (by omega) (by omega);have u2:q*O.f1≤201*O.f1:=Int.mul_le_mul_of_nonneg_right a2 (by omega);have u3:0≤q'*O.f1:=Int.mul_nonneg (by omega) (by omega);have u4:q'*O.f1≤201*O.f1:=Int.mul_le_mul_of_nonneg_right b2 (by omega);have e1:=far q a1 j hj;have e2:=far q' b1 j' hj';have:=h (q*O.f1+j) (q'*O.f1+j') hlt (l6 (by omega)) (l6 (by omega)) (by rw [e1];simpa using n1) (by rw [e2];simpa using n2);rw [e1,e2,(hfl _ _ n1).2,(hfl _ _ n2).1] at this;exact this
  have tf:TF O.f0 O.f2:=by
    refine ⟨List.pairwise_iff_getElem.2 fun i j hi hj hij n1 n2 => ?_,fun a ha b hb n1 n2 => ?_⟩
    · have:=hO 200 200 i j hi hj (by omega) (by omega) (by omega) (by omega) (by omega) n1 n2
      omega
    · obtain ⟨i,hi,rfl⟩:=List.mem_iff_getElem.1 ha
      obtain ⟨j,hj,rfl⟩:=List.mem_iff_getElem.1 hb;have hc:=s.hc;have:=hO 200 201 i j hi hj (by omega) (by omega) (by omega) (by omega) (by omega) n1 n2;omega
  have nu:∀ i k,-100≤i→i≤100→i<k→gF O k≠[]→gap O.f1 O.f2 O.f3 i k→k≤300:=fun i k h1 h2 hik hn hg=>by
    refine Classical.byContradiction fun hk2 => ?_;have hz:∀ g∈O.f3,g.f0≠k:=fun g hg e=>by have:=hix g hg;omega
    have hb:bF O k≠[]:=by rw [← kH hz];exact hn
    by_cases hc0:O.f2.length=0
    · exact hb (nM (List.length_eq_zero_iff.1 hc0) k)
    · have st:Stp (bF O) O.f2.length O.f0:=kX s (by omega)
      have e:=st (k - O.f2.length);rw [show k - (O.f2.length:Int)+(O.f2.length:Int)=k by omega] at e;have hn2:bF O (k - O.f2.length)≠[]:=fun e2=>hb (by rw [e,e2];rfl);have hz2:∀ g∈O.f3,g.f0≠k - O.f2.length:=fun g hg e=>by have:=hix g hg;omega
      rw [← kH hz2] at hn2;exact l8.2 hn2 (hg _ (by omega) (by omega))
  have nd:∀ i k,-100≤i→i≤100→k<i→gF O k≠[]→gap O.f1 O.f2 O.f3 k i → -300≤k:=fun i k h1 h2 hik hn hg=>by
    refine Classical.byContradiction fun hk2 => ?_;have hz:∀ g∈O.f3,g.f0≠k:=fun g hg e=>by have:=hix g hg;omega
    have hb:bF O k≠[]:=by rw [← kH hz];exact hn
    by_cases hc0:O.f2.length=0
    · exact hb (nM (List.length_eq_zero_iff.1 hc0) k)
    · have st:Stp (bF O) O.f2.length O.f0:=kX s (by omega)
      have e:=st k;have hn2:bF O (k+O.f2.length)≠[]:=fun e2=>hb (by rw [e2] at e;simpa using e.symm);have hz2:∀ g∈O.f3,g.f0≠k+O.f2.length:=fun g hg e=>by have:=hix g hg;omega
      rw [← kH hz2] at hn2;exact l8.2 hn2 (hg _ (by omega) (by omega))
  have ah:∀ i k,-1000≤i→i≤1000 → -1000≤k→k≤1000→i<k→jE (vF O i).1 (vF O k).1=true:=fun i k h1 h2 h3 h4 hik=>by
    rw [hv i (by omega) (by omega),hv k (by omega) (by omega)];exact (rF _ _).2 fun n1 n2=>h i k hik (l6 (by omega)) (l6 (by omega)) n1 n2
  refine ⟨s,tf,fun g hg => ?_⟩;have hr:=hix g hg;refine ⟨?_,fun k hik rk nk gk => ?_,fun k hik rk nk gk => ?_,fun j k hj hk' rj rk nj nk gj gk => ?_⟩
  · show (vF O g.f0).2=0
    rw [hv _ (by omega) (by omega)]
  · have:=nu g.f0 k (by omega) (by omega) hik (l8.1 nk) gk
    refine ⟨?_,ah _ _ (by omega) (by omega) (by omega) (by omega) hik⟩;show (vF O k).2=0;rw [hv _ (by omega) (by omega)]
  · have:=nd g.f0 k (by omega) (by omega) hik (l8.1 nk) gk
    refine ⟨?_,ah _ _ (by omega) (by omega) (by omega) (by omega) hik⟩;show (vF O k).2=0;rw [hv _ (by omega) (by omega)]
  · have:=nd g.f0 j (by omega) (by omega) hj (l8.1 nj) gj
    have:=nu g.f0 k (by omega) (by omega) hk' (l8.1 nk) gk;exact ah j k (by omega) (by omega) (by omega) (by omega) (by omega)
end
end Go.Proofs.YtcomnjodjijcmaaGreat.Q

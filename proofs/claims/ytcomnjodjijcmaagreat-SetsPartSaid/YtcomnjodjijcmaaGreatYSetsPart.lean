/- The law SetsPart: it holds at every input that its row reads. No condition of its own. -/
import Derived.Test.YtcomnjodjijcmaaGreatYD19
import Derived.Test.YtcomnjodjijcmaaGreatYD17
import Derived.Test.YtcomnjodjijcmaaGreatRows
import Derived.Test.YtcomnjodjijcmaaGreatYD16
import Derived.WalkKit
import Derived.ProofKit
import Derived.OpenShut
import Derived.ShutString
import Derived.ChangeOld
import Derived.Below
import Derived.SizedLaws
namespace Go.Proofs.YtcomnjodjijcmaaGreat.Q
set_option linter.unusedVariables false
set_option linter.unusedSimpArgs false
open Go.RowKit Go.Proofs.YtcomnjodjijcmaaGreatW.dA Go.Proofs.YtcomnjodjijcmaaGreatW.eD M R P
section
theorem pK {O h:Fm} (so:sfF O) (s:acA O h) (i:Int):gF h i=gF O i:=xX.adB so s i
theorem pO {O h:Fm} (so:sfF O) (s:acA O h) (i:Int):bF h i=bF O i:=by
  have:=s.c.ticks so i;rw [oH,oH] at this;exact this
theorem kZ {O h:Fm} (so:sfF O) (s:acA O h):h.f2.length≤O.f2.length∧h.f3.length≤O.f3.length∧h.f0≤O.f0∧(h.f2=[]∨(h.f2.length ∣ O.f2.length∧O.f2.length≠0∧h.f0*((O.f2.length / h.f2.length:Nat):Int)=O.f0)):=by
  have ho:h.f3.length≤O.f3.length:=by rw [s.o];exact List.length_filter_le _ _
  by_cases hb:∀ l∈O.f2,l=[]
  · have e:=s.c.e hb
    have e2:h.f2=[]:=congrArg (fun x:Fm=>x.f2) e;have e0:h.f0=0:=congrArg (fun x:Fm=>x.f0) e;exact ⟨by rw [e2];simp,ho,by rw [e0];exact so.hp0,.inl e2⟩
  · obtain ⟨d,rp,_,e⟩:=s.c.n hb
    have e2:h.f2=O.f2.take d:=congrArg (fun x:Fm=>x.f2) e;have e0:h.f0=O.f0 / ((O.f2.length / d:Nat):Int):=congrArg (fun x:Fm=>x.f0) e;have hne:O.f2.length≠0:=fun e=>hb fun l hl=>by rw [List.length_eq_zero_iff.1 e] at hl;simp at hl
    have hd:d≤O.f2.length:=Nat.le_of_dvd (by omega) rp.d1;have el:h.f2.length=d:=by rw [e2,List.length_take];omega
    refine ⟨by omega,ho,?_,.inr ⟨by rw [el];exact rp.d1,hne,?_⟩⟩
    · rw [e0]
      exact Int.ediv_le_self _ so.hp0
    · rw [el,e0]
      exact Int.ediv_mul_cancel rp.d2
structure agQ (O:Fm):Prop where
  s:sfF O
  g:grF O
  lc:O.f2.length≤144
  lo:O.f3.length≤16
  hp:O.f0≤10000
  ix:∀ g∈O.f3,-100≤g.f0∧g.f0≤100
  tk:∀ i,-6000≤i→i≤6000→okL (gF O i)
  tb:∀ i,-6000≤i→i≤6000→okL (bF O i)
  ln:∀ i,(gF O i).length≤60
  lb:∀ i,(bF O i).length≤60
theorem agQ.nf {O h:Fm} (H:agQ O) (s:acA O h):NF h:=by
  obtain ⟨l1,l2,l3,_⟩:=kZ H.s s;have:=H.lc;have:=H.lo;have:=H.hp;exact ⟨s.can H.s,s.gr H.g,by omega,by omega,by omega,fun g hg=>H.ix g (by rw [s.o] at hg;exact (List.mem_filter.1 hg).1),fun i h1 h2=>by rw [pK H.s s];exact H.tk i h1 h2,fun i h1 h2=>by rw [pO H.s s];exact H.tb i h1 h2,fun i=>by rw [pK H.s s];exact H.ln i,fun i=>by rw [pO H.s s];exact H.lb i⟩
theorem zJ {O:Fm} (w:mR O.f0 O.f1 O.f2 O.f3):agQ O:=by
  have:=w.lc;have:=w.lo;have p60:=w.p60;have p0:=w.ok.s.hp0;have sz:=w.sz;have sb:lM O.f2 []≤lM O.f2 O.f3:=by
    unfold lM;have:0≤(O.f3.map fun g=>(g.f1.length:Int)).sum:=oG (fun x hx=>by obtain ⟨g,_,rfl⟩:=List.mem_map.1 hx;omega);simp only [List.map_nil,List.sum_nil,Int.add_zero];exact Int.le_add_of_nonneg_right this
  refine ⟨w.ok.s,w.gr,by omega,by omega,by omega,fun g hg=>(w.ho g hg).1,fun i h1 h2 s hs => ?_,fun i h1 h2 s hs => ?_,fun i => ?_,fun i => ?_⟩
  · have:=w.th (i:=i) (by omega) s (by unfold thV;rw [w.wL (by omega)];exact hs)
    omega
  · obtain ⟨s0,hs0,rfl⟩:=List.mem_map.1 hs
    by_cases hc:O.f1=0
    · unfold gJ at hs0
      rw [if_pos hc] at hs0;simp at hs0
    · have hm:=w.ok.s.jM i hc
      have hS:=w.ok.s.hcore _ hm;have b:=hS.between hs0;have q:=w.hc _ hm (fun e=>by rw [e] at hs0;simp at hs0);have hc0:=w.ok.s.hc;have d:=ahO (i:=i) (c:=O.f1) (by omega) (by omega);have m1:i / O.f1*O.f0≤6000*O.f0:=Int.mul_le_mul_of_nonneg_right d.2 p0;have m2 : -6000*O.f0≤i / O.f1*O.f0:=Int.mul_le_mul_of_nonneg_right d.1 p0;simp only [fG];omega
  · have:=ad6 w.ok.s i
    unfold gF;omega
  · have:=ad6 w.ok.s.abN i
    have e:bF O i=gT O.f0 O.f1 O.f2 [] i:=(oH i).symm;rw [e];omega
structure Sml (A:Fm):Prop where
  nf:NF A
  c:A.f2.length≤12
  o:A.f3.length≤8
  p:A.f0≤60
theorem uS {O h:Fm} (w:mR O.f0 O.f1 O.f2 O.f3) (s:acA O h):Sml h:=by
  obtain ⟨l1,l2,l3,_⟩:=kZ w.ok.s s;have:=w.lc;have:=w.lo;have:=w.p60;exact ⟨(zJ w).nf s,by omega,by omega,by omega⟩
theorem ad9 (a b:Nat):Nat.lcm a b≤a*b:=Nat.div_le_self _ _
theorem adI {A B:Fm} (a:Sml A) (b:Sml B):nF A B≤144:=by
  have:=a.c;have:=b.c;unfold nF rn;split
  · omega
  · split
    · omega
    · exact Nat.le_trans (ad9 _ _) (Nat.mul_le_mul a.c b.c)
theorem ahR {A B:Fm} (a:Sml A) (b:Sml B):tF A B≤10000:=by
  have hn:=adI a b;have:=a.p;have:=b.p;unfold tF rt;split
  · omega
  · have hq:rn A.f2.length B.f2.length / A.f2.length≤144:=Nat.le_trans (Nat.div_le_self _ _) hn
    generalize rn A.f2.length B.f2.length / A.f2.length=q at hq;have h1:A.f0*(q:Int)≤60*(q:Int):=Int.mul_le_mul_of_nonneg_right a.p (by omega);omega
variable {D:List Sp→List Sp→List Sp} {A B:Fm}
theorem NF.sS (hD:zH D) (a:NF A) (b:NF B) (hf:oI A B) (i:Int):gF (gW D A B) i=D (gF A i) (gF B i) :=
  Q.sS hD a.cn.s b.cn.s hf (fun i hi=>by have:=kY a b i hi;rw [a.v (by omega) (by omega)]) (fun i hi=>by have:=kY a b i hi;rw [b.v (by omega) (by omega)]) i
theorem aea (a:NF A) (b:NF B):∀ g∈(gW D A B).f3,-100≤g.f0∧g.f0≤100:=fun g hg=>by
  obtain ⟨i,hi,rfl⟩:=List.mem_map.1 hg;exact kY a b i hi
theorem aeb (hD:zH D) (a:NF A) (b:NF B) (hf:oI A B):∀ i,-6000≤i→i≤6000→okL (gF (gW D A B) i):=fun i h1 h2=>by
  rw [a.sS hD b hf];exact hD.one.ok acj (a.tk i h1 h2) (b.tk i h1 h2)
theorem wM:(gW D A B).f2.length=nF A B:=by simp [gW]
theorem agC:(gW D A B).f3.length≤A.f3.length+B.f3.length:=by
  have:(gW D A B).f3.length=(iW A B).length:=by simp [gW]
  have:=l5 A B;omega
theorem agD (hD:zH D) (a:NF A) (b:NF B) (hn:nF A B≤144) (hf:oI A B) {C:Fm} (hC:afk C) (hp:∀ i,D (gF A i) (gF B i)=gF C i∨D (gF A i) (gF B i)=[]):grF (gW D A B) :=
  ahQ (rO hD a b hn) (by rw [wM];exact hn) (aea a b) (aeb hD a b hf) (adH hC fun i=>by rw [a.sS hD b hf];exact hp i)
theorem afl (hD:zH D) (a:Sml A) (b:Sml B) (hf:oI A B) (g:grF (gW D A B)):agQ (gW D A B):=by
  have hn:=adI a b;have:=agC (D:=D) (A:=A) (B:=B);have:=a.o;have:=b.o;exact ⟨rO hD a.nf b.nf hn,g,by rw [wM];exact hn,by omega,ahR a b,aea a.nf b.nf,aeb hD a.nf b.nf hf,fun i h1 h2=>by
    rw [zI hD a.nf.cn.s b.nf.cn.s hf];exact hD.one.ok acj (a.nf.tb i h1 h2) (b.nf.tb i h1 h2),fun i=>by
    rw [a.nf.sS hD b.nf hf];exact hD.one.ok (P:=fun l=>l.length≤60) (by simp) (a.nf.ln i) (b.nf.ln i),fun i=>by
    rw [zI hD a.nf.cn.s b.nf.cn.s hf];exact hD.one.ok (P:=fun l=>l.length≤60) (by simp) (a.nf.lb i) (b.nf.lb i)⟩
theorem NF.ord (a:NF A):afk A:=agB a.gr.fok
theorem adJ {O O' z l:Fm} (so:sfF O) (aa:sfF O') (s:acA O z) (s':acA O' l) (hl:O.f2.length=O'.f2.length) (h0:O.f0=O'.f0):oI z l∧nF z l≤O.f2.length:=by
  obtain ⟨a1,_,_,a4⟩:=kZ so s;obtain ⟨b1,_,_,b4⟩:=kZ aa s';rcases a4 with e | ⟨d1,n1,p1⟩
  · refine ⟨.inl e,?_⟩
    unfold nF rn;rw [if_pos (by rw [e];rfl)];omega
  rcases b4 with e | ⟨d2,n2,p2⟩
  · refine ⟨.inr (.inl e),?_⟩
    unfold nF rn;by_cases hz:z.f2.length=0
    · rw [if_pos hz,e]
      simp
    · rw [if_neg hz,if_pos (by rw [e];rfl)]
      exact a1
  by_cases hz:z.f2.length=0
  · refine ⟨.inl (List.length_eq_zero_iff.1 hz),?_⟩
    unfold nF rn;rw [if_pos hz];omega
  by_cases hz':l.f2.length=0
  · refine ⟨.inr (.inl (List.length_eq_zero_iff.1 hz')),?_⟩
    unfold nF rn;rw [if_neg hz,if_pos hz'];exact a1
  have en:nF z l=Nat.lcm z.f2.length l.f2.length:=by unfold nF rn;rw [if_neg hz,if_neg hz']
  have dm:nF z l ∣ O.f2.length:=by rw [en];exact Nat.lcm_dvd d1 (by rw [hl];exact d2)
  refine ⟨.inr (.inr ?_),Nat.le_of_dvd (by omega) dm⟩;obtain ⟨e,he⟩:=dm;obtain ⟨u,hu⟩:z.f2.length ∣ nF z l:=by rw [en];exact Nat.dvd_lcm_left _ _
  obtain ⟨w,hw⟩:l.f2.length ∣ nF z l:=by rw [en];exact Nat.dvd_lcm_right _ _
  have e0:e≠0:=fun h=>n1 (by rw [he,h,Nat.mul_zero]);have q1:O.f2.length / z.f2.length=u*e:=by rw [he,hu,Nat.mul_assoc,Nat.mul_div_cancel_left _ (by omega)]
  have q2:O'.f2.length / l.f2.length=w*e:=by rw [← hl,he,hw,Nat.mul_assoc,Nat.mul_div_cancel_left _ (by omega)]
  have t1:tF z l=z.f0*(u:Int):=by
    have:rn z.f2.length l.f2.length / z.f2.length=u:=by
      show nF z l / z.f2.length=u;rw [hu,Nat.mul_div_cancel_left _ (by omega)]
    unfold tF rt;rw [if_neg hz,this]
  have t2:tF l z=l.f0*(w:Int):=by
    have:rn l.f2.length z.f2.length / l.f2.length=w:=by
      show nF l z / l.f2.length=w;rw [pI,hw,Nat.mul_div_cancel_left _ (by omega)]
    unfold tF rt;rw [if_neg hz',this]
  rw [t1,t2];rw [q1] at p1;rw [q2] at p2;have key:z.f0*(u:Int)*(e:Int)=l.f0*(w:Int)*(e:Int):=by
    have h1:z.f0*(u:Int)*(e:Int)=O.f0:=by rw [← p1,Int.mul_assoc];simp
    have h2:l.f0*(w:Int)*(e:Int)=O'.f0:=by rw [← p2,Int.mul_assoc];simp
    rw [h1,h2,h0]
  exact Int.eq_of_mul_eq_mul_right (by omega) key
end
end Go.Proofs.YtcomnjodjijcmaaGreat.Q
namespace Go.Proofs.YtcomnjodjijcmaaGreat.Q
set_option linter.unusedVariables false
set_option linter.unusedSimpArgs false
open Go.RowKit Go.Proofs.YtcomnjodjijcmaaGreatW.dA Go.Proofs.YtcomnjodjijcmaaGreatW.eD M R P
theorem aaD (k:Nat):@fu.f wtT (k+100)=some true:=by kernel_rfl
variable [Inhabited WT]
theorem lN:Ev (fun k=>fu.f k) true:=⟨100,fun k hk=>by
  obtain ⟨j,rfl⟩:=Nat.exists_eq_add_of_le' hk;rename_i i;rw [afL i wtT];exact aaD j⟩
end Go.Proofs.YtcomnjodjijcmaaGreat.Q
namespace Go.Proofs.YtcomnjodjijcmaaGreat.U
set_option linter.unusedVariables false
set_option linter.unusedSimpArgs false
open Go.RowKit Go.Proofs.YtcomnjodjijcmaaGreatW.dA Go.Proofs.YtcomnjodjijcmaaGreatW.eD M R P Q
section
theorem qz {D:List Sp→List Sp→List Sp} (hD:zH D) {A B:Fm} (a:NF A) (b:NF B) (hn:nF A B≤144) (hal:oK A B) {r:Fm × Int} (hr:OfS D A B r) {C:Fm} (hC:afk C) (hp:∀ i,D (gF A i) (gF B i)=gF C i∨D (gF A i) (gF B i)=[]) :
    ∃ h,acA (gW D A B) h∧grF (gW D A B)∧r=(h,0)∧∀ i,gF h i=D (gF A i) (gF B i):=by
  have g:=agD hD a b hn hal.1 hC hp;obtain ⟨h,h1,h2⟩:=(hr.2 hal).2 g;exact ⟨h,h1,g,h2,fun i=>by rw [pK (rO hD a b hn) h1,a.sS hD b hal.1]⟩
end
variable [Inhabited WT]
theorem alf {x:Fm} (h:sfF x):Ev (fun k=>dh.f k x.f0 x.f1 x.f2 x.f3 x.f0 x.f1 x.f2 x.f3) true:=uO h
end Go.Proofs.YtcomnjodjijcmaaGreat.U
namespace Go.Proofs.YtcomnjodjijcmaaGreat.Q
set_option linter.unusedVariables false
set_option linter.unusedSimpArgs false
open Go.RowKit Go.Proofs.YtcomnjodjijcmaaGreatW.dA Go.Proofs.YtcomnjodjijcmaaGreatW.eD M R P
variable [Inhabited WT]
end Go.Proofs.YtcomnjodjijcmaaGreat.Q
namespace Go.Proofs.YtcomnjodjijcmaaGreat.Q
set_option linter.unusedVariables false
set_option linter.unusedSimpArgs false
open Go.RowKit Go.Proofs.YtcomnjodjijcmaaGreatW.dA Go.Proofs.YtcomnjodjijcmaaGreatW.eD M R P
variable [Inhabited WT]
end Go.Proofs.YtcomnjodjijcmaaGreat.Q
namespace Go.Proofs.YtcomnjodjijcmaaGreat.Q
set_option linter.unusedVariables false
set_option linter.unusedSimpArgs false
open Go.RowKit Go.Proofs.YtcomnjodjijcmaaGreatW.dA Go.Proofs.YtcomnjodjijcmaaGreatW.eD M R P
section
def PC:List (List Sp)→List (List Sp)→Prop
  | [],[]=>True
  | l :: r,l' :: r'=>(l'=l∨l'=[])∧PC r r'
  | _,_=>False
def PO:List Gn→List Gn→Prop
  | [],[]=>True
  | g :: r,g' :: r'=>(g'.f0=g.f0∧(g'.f1=g.f1∨g'.f1=[]))∧PO r r'
  | _,_=>False
theorem PC.refl:∀ l,PC l l
  | []=>trivial
  | x :: r=>⟨.inl rfl,PC.refl r⟩
theorem PO.refl:∀ l,PO l l
  | []=>trivial
  | x :: r=>⟨⟨rfl,.inl rfl⟩,PO.refl r⟩
theorem PC.len:∀ {l m},PC l m→m.length=l.length
  | [],[],_=>rfl
  | _ :: _,_ :: _,h=>by simp [PC.len h.2]
theorem PO.len:∀ {l m},PO l m→m.length=l.length
  | [],[],_=>rfl
  | _ :: _,_ :: _,h=>by simp [PO.len h.2]
theorem PC.set:∀ {l m} (i:Nat),PC l m→PC l (m.set i [])
  | [],[],_,_=>trivial
  | _ :: _,_ :: _,0,h=>⟨.inr rfl,h.2⟩
  | _ :: _,_ :: _,i+1,h=>⟨h.1,PC.set i h.2⟩
theorem PO.set:∀ {l m} (i:Nat) (hi:i<m.length),PO l m→PO l (m.set i ⟨(m[i]).f0,[]⟩)
  | [],[],_,_,_=>trivial
  | _ :: _,_ :: _,0,_,h=>⟨⟨h.1.1,.inr rfl⟩,h.2⟩
  | _ :: _,_ :: _,i+1,hi,h=>⟨h.1,PO.set i (by simpa using hi) h.2⟩
theorem PC.mem:∀ {l m},PC l m→∀ x∈m,x∈l∨x=[]
  | [],[],_,x,hx=>by simp at hx
  | y :: r,z :: s,h,x,hx=>by
    rcases List.mem_cons.1 hx with rfl | hx
    · rcases h.1 with e | e
      · exact .inl (by rw [e];simp)
      · exact .inr e
    · rcases PC.mem h.2 x hx with e | e
      · exact .inl (List.mem_cons_of_mem _ e)
      · exact .inr e
theorem PO.mem:∀ {l m},PO l m→∀ x∈m,∃ g∈l,x.f0=g.f0∧(x.f1=g.f1∨x.f1=[])
  | [],[],_,x,hx=>by simp at hx
  | y :: r,z :: s,h,x,hx=>by
    rcases List.mem_cons.1 hx with rfl | hx
    · exact ⟨y,by simp,h.1.1,h.1.2⟩
    · obtain ⟨g,hg,e⟩:=PO.mem h.2 x hx
      exact ⟨g,List.mem_cons_of_mem _ hg,e⟩
theorem PC.sum:∀ {l m},PC l m→(m.map fun x=>(x.length:Int)).sum≤(l.map fun x=>(x.length:Int)).sum
  | [],[],_=>Int.le_refl _
  | y :: r,z :: s,h=>by
    have:=PC.sum h.2;simp only [List.map_cons,List.sum_cons];rcases h.1 with e | e
    · rw [e];omega
    · rw [e];simp only [List.length_nil];omega
theorem PO.sum:∀ {l m},PO l m→(m.map fun x=>(x.f1.length:Int)).sum≤(l.map fun x=>(x.f1.length:Int)).sum
  | [],[],_=>Int.le_refl _
  | y :: r,z :: s,h=>by
    have:=PO.sum h.2;simp only [List.map_cons,List.sum_cons];rcases h.1.2 with e | e
    · rw [e];omega
    · rw [e];simp only [List.length_nil];omega
theorem PC.get:∀ {l m},PC l m→∀ i:Nat,m.getD i []=l.getD i []∨m.getD i []=[]
  | [],[],_,_=>.inl rfl
  | _ :: _,_ :: _,h,0=>by simpa using h.1
  | _ :: _,_ :: _,h,i+1=>by simpa using PC.get h.2 i
theorem PO.odd:∀ {l m},PO l m→∀ i,(jh l i=none∧jh m i=none)∨∃ x y,jh l i=some x∧jh m i=some y∧(y=x∨y=[])
  | [],[],_,_=>.inl ⟨rfl,rfl⟩
  | g :: r,g' :: r',h,i=>by
    simp only [jh];by_cases e:g.f0=i
    · rw [if_pos e,if_pos (h.1.1.trans e)]
      exact .inr ⟨_,_,rfl,rfl,h.1.2⟩
    · rw [if_neg e,if_neg (fun e2=>e (h.1.1.symm.trans e2))]
      exact PO.odd h.2 i
theorem afm {p c:Int} {core fq:List (List Sp)} {odd jA:List Gn} (h:PC core fq) (k:PO odd jA) (i:Int):gF ⟨p,c,fq,jA⟩ i=gF ⟨p,c,core,odd⟩ i∨gF ⟨p,c,fq,jA⟩ i=[]:=by
  show (fs c fq jA i).map (fG (fb p c jA i))=(fs c core odd i).map (fG (fb p c odd i))∨(fs c fq jA i).map (fG (fb p c jA i))=[];rcases k.odd i with ⟨e1,e2⟩ | ⟨x,y,e1,e2,e3⟩
  · unfold fs fb
    rw [e1,e2];simp only;unfold gJ;split
    · exact .inl rfl
    · rcases h.get (i % c).toNat with e | e
      · exact .inl (by rw [e])
      · exact .inr (by rw [e];rfl)
  · unfold fs fb
    rw [e1,e2];simp only;rcases e3 with e | e
    · exact .inl (by rw [e])
    · exact .inr (by rw [e];rfl)
theorem afn {p c:Int} {core fq:List (List Sp)} {odd jA:List Gn} (h:PC core fq) (i:Int):bF ⟨p,c,fq,jA⟩ i=bF ⟨p,c,core,odd⟩ i∨bF ⟨p,c,fq,jA⟩ i=[]:=by
  show (gJ c fq i).map _=(gJ c core i).map _∨(gJ c fq i).map _=[];unfold gJ;split
  · exact .inl rfl
  · rcases h.get (i % c).toNat with e | e
    · exact .inl (by rw [e])
    · exact .inr (by rw [e];rfl)
theorem acn {p c:Int} {core fq:List (List Sp)} {odd jA:List Gn} (w:mR p c core odd) (h:PC core fq) (k:PO odd jA) (g:GR p c fq jA):mR p c fq jA:=by
  have:=w.lc;have:=w.lo;refine ⟨g.fok,g,by rw [h.len];exact w.lc,by rw [k.len];exact w.lo,?_,w.p60,fun l hl => ?_,fun x hx => ?_⟩
  · have s1:=h.sum
    have s2:=k.sum;have s3:(core.map fun x=>(x.length:Int)).sum+(odd.map fun x=>(x.f1.length:Int)).sum≤60:=w.sz;show (fq.map fun x=>(x.length:Int)).sum+(jA.map fun x=>(x.f1.length:Int)).sum≤60;omega
  · rcases h.mem l hl with e | e
    · exact w.hc l e
    · exact fun hn=>absurd e hn
  · obtain ⟨y,hy,e0,e1⟩:=k.mem x hx
    have:=w.ho y hy;refine ⟨by rw [e0];exact this.1,fun hn => ?_⟩;rcases e1 with e | e
    · rw [e] at hn ⊢;exact this.2 hn
    · exact absurd e hn
theorem zK (k:Nat) (l:List Sp) (h:l.length≤8796093022208):gZ.f k l=some l:=by
  unfold gZ.f;rw [if_pos (by omega),if_pos (by omega)];simp
end
variable [Inhabited WT]
variable {p c:Int} {core:List (List Sp)} {odd:List Gn}
theorem afo (a c:Int) (hc:1≤c∧c≤6000):∃ r,Ev (fun k=>iy.f k a c) r∧0≤r:=by
  have h1:=Int.tmod_lt_of_pos a (show 0<c by omega);have h2:=Int.lt_tmod_of_pos a (show 0<c by omega);refine ⟨Int.tmod (wq (Int.tmod a c+c)) c,?_,?_⟩
  · unfold iy.f
    exact Ev.no (by simp;omega) (Ev.no (by omega) (Ev.no (by omega) (Ev.now _)))
  · rw [iX (by omega) (by omega)]
    exact Int.tmod_nonneg _ (by omega)
theorem afp (w:mR p c core odd) (keep gone:Int):∃ fq jA,PC core fq∧PO odd jA∧∃ b,Ev (fun k=>cO.f k p c core odd keep gone) (⟨p,c,fq,jA⟩,b)∧(b=true→GR p c fq jA):=by
  have lc:=w.lc;have lo:=w.lo;have hs:=w.ok.s;have hc:=hs.hc;have mc:∀ l∈core,l.length≤8796093022208:=fun l hl=>by
    have:=(hs.hcore l hl).uD;have:l.length≤60:=by
      have h1:=w.sz;have h2:=rG (fun x:List Sp=>(x.length:Int)) (fun x=>by omega) hl;have h3:0≤(odd.map fun g=>(g.f1.length:Int)).sum:=oG (fun x hx=>by obtain ⟨g,_,rfl⟩:=List.mem_map.1 hx;omega);have h4:(core.map fun x=>(x.length:Int)).sum+(odd.map fun x=>(x.f1.length:Int)).sum≤60:=h1;omega
    omega
  have mo:∀ g∈odd,g.f1.length≤8796093022208:=fun g hg=>by
    have h1:(core.map fun x=>(x.length:Int)).sum+(odd.map fun x=>(x.f1.length:Int)).sum≤60:=w.sz;have h2:=rG (fun x:Gn=>(x.f1.length:Int)) (fun x=>by omega) hg;have h3:0≤(core.map fun g=>(g.length:Int)).sum:=oG (fun x hx=>by obtain ⟨g,_,rfl⟩:=List.mem_map.1 hx;omega);omega
  have k0:∀ (d j:Nat),core.length - j=d→j≤core.length→∀ (X:Nat→List (List Sp)→Option (Fm × Bool)) (v:Fm × Bool),Ev (fun k=>X k core) v→Ev (fun k=>cO.l0 (X k) core (core.length:Int) k (j:Int) (core.take j)) v:=by
    intro d;induction d with
    | zero =>
      intro j hd hj X v hX;obtain rfl:j=core.length:=by omega
      refine Ev.step (f:=fun k=>X (k+1) core) (fun k => ?_) (Ev.shift hX);have c1:¬ (core.length:Int)<(core.length:Int):=by omega
      simp only [cO.l0,cO.l0T,decide_eq_true_eq,c1,if_false,List.take_length]
    | succ d ih =>
      intro j hd hj X v hX;have hj':j<core.length:=by omega
      have c1:(j:Int)<(core.length:Int):=by omega
      have c2:(0:Int)≤(j:Int):=by omega
      have hw:=nx c1 c2 (by omega);refine Ev.step (fun k=>rfl) ?_;simp only [cO.l0,cO.l0T,decide_eq_true_eq,c1,c2,if_true,hw,rdL _ j hj',zK _ _ (mc _ (List.getElem_mem hj')),Option.bind_some];refine Ev.yes (by simp;omega) ?_;have:=ih (j+1) (by omega) (by omega) (fun k=>X (k+1)) v (Ev.shift hX);rw [List.take_succ_eq_append_getElem hj'] at this;exact this
  have k1:∀ (d j:Nat),odd.length - j=d→j≤odd.length→∀ (X:Nat→List Gn→Option (Fm × Bool)) (v:Fm × Bool),Ev (fun k=>X k odd) v→Ev (fun k=>cO.l1 (X k) odd (odd.length:Int) k (j:Int) (odd.take j)) v:=by
    intro d;induction d with
    | zero =>
      intro j hd hj X v hX;obtain rfl:j=odd.length:=by omega
      refine Ev.step (f:=fun k=>X (k+1) odd) (fun k => ?_) (Ev.shift hX);have c1:¬ (odd.length:Int)<(odd.length:Int):=by omega
      simp only [cO.l1,cO.l1T,decide_eq_true_eq,c1,if_false,List.take_length]
    | succ d ih =>
      intro j hd hj X v hX;have hj':j<odd.length:=by omega
      have c1:(j:Int)<(odd.length:Int):=by omega
      have c2:(0:Int)≤(j:Int):=by omega
      have hw:=nx c1 c2 (by omega);refine Ev.step (fun k=>rfl) ?_;simp only [cO.l1,cO.l1T,decide_eq_true_eq,c1,c2,if_true,hw,rdG _ j hj',zK _ _ (mo _ (List.getElem_mem hj')),Option.bind_some];refine Ev.yes (by simp;omega) ?_;have:=ih (j+1) (by omega) (by omega) (fun k=>X (k+1)) v (Ev.shift hX);rw [List.take_succ_eq_append_getElem hj'] at this;exact this
  have k2:∀ (d j:Nat),core.length - j=d→j≤core.length→∀ m,PC core m→∃ fq,PC core fq∧∀ (X:Nat→List (List Sp)→Option (Fm × Bool)) (v:Fm × Bool),Ev (fun k=>X k fq) v→Ev (fun k=>cO.l2 (X k) keep (core.length:Int) core.length k (j:Int) m) v:=by
    intro d;induction d with
    | zero =>
      intro j hd hj m hm;obtain rfl:j=core.length:=by omega
      refine ⟨m,hm,fun X v hX=>Ev.step (f:=fun k=>X (k+1) m) (fun k => ?_) (Ev.shift hX)⟩;have c1:¬ (core.length:Int)<(core.length:Int):=by omega
      simp only [cO.l2,cO.l2T,decide_eq_true_eq,c1,if_false]
    | succ d ih =>
      intro j hd hj m hm;have c1:(j:Int)<(core.length:Int):=by omega
      have c2:(0:Int)≤(j:Int):=by omega
      have hw:=nx c1 c2 (by omega);have ht:¬ Int.tmod (j:Int) 8<0:=by have:=Int.tmod_nonneg 8 c2;omega
      obtain ⟨m1,h1,h2⟩:=ih (j+1) (by omega) (by omega) (m.set j []) (hm.set j);obtain ⟨m3,h3,h4⟩:=ih (j+1) (by omega) (by omega) m hm;by_cases hb:(IntKind.wrap .u8 (BitVec.ofInt 8 (Int.fdiv keep (2 ^ (min (Int.toNat (Int.tmod (j:Int) 8)) 8))) &&& BitVec.ofInt 8 1).toNat)=0
      · refine ⟨m1,h1,fun X v hX=>Ev.step (fun k=>rfl) ?_⟩
        simp only [cO.l2,cO.l2T,decide_eq_true_eq,c1,c2,if_true,hw];exact Ev.no ht (Ev.yes hb (h2 (fun k=>X (k+1)) v (Ev.shift hX)))
      · refine ⟨m3,h3,fun X v hX=>Ev.step (fun k=>rfl) ?_⟩
        simp only [cO.l2,cO.l2T,decide_eq_true_eq,c1,c2,if_true,hw];exact Ev.no ht (Ev.no hb (h4 (fun k=>X (k+1)) v (Ev.shift hX)))
  have k3:∀ (d j:Nat),odd.length - j=d→j≤odd.length→∀ m,PO odd m→∃ jA,PO odd jA∧∀ (X:Nat→List Gn→Option (Fm × Bool)) (v:Fm × Bool),Ev (fun k=>X k jA) v→Ev (fun k=>cO.l3 (X k) keep gone odd.length (odd.length:Int) c odd.length k (j:Int) m) v:=by
    intro d;induction d with
    | zero =>
      intro j hd hj m hm;obtain rfl:j=odd.length:=by omega
      refine ⟨m,hm,fun X v hX=>Ev.step (f:=fun k=>X (k+1) m) (fun k => ?_) (Ev.shift hX)⟩;have c1:¬ (odd.length:Int)<(odd.length:Int):=by omega
      simp only [cO.l3,cO.l3T,decide_eq_true_eq,c1,if_false]
    | succ d ih =>
      intro j hd hj m hm;have c1:(j:Int)<(odd.length:Int):=by omega
      have c2:(0:Int)≤(j:Int):=by omega
      have hw:=nx c1 c2 (by omega);have hjm:j<m.length:=by rw [hm.len];omega
      have hrd:gG m (j:Int)=m[j]:=rdG _ j hjm;obtain ⟨m1,h1,h2⟩:=ih (j+1) (by omega) (by omega) (m.set j ⟨(m[j]).f0,[]⟩) (hm.set j hjm);obtain ⟨m3,h3,h4⟩:=ih (j+1) (by omega) (by omega) m hm;by_cases hcp:c>0
      · obtain ⟨r,r1,r2⟩:=afo (m[j]).f0 c (by omega)
        have ht:¬ Int.tmod r 8<0:=by have:=Int.tmod_nonneg 8 r2;omega
        by_cases hb:(IntKind.wrap .u8 (BitVec.ofInt 8 (Int.fdiv keep (2 ^ (min (Int.toNat (Int.tmod r 8)) 8))) &&& BitVec.ofInt 8 1).toNat)=0
        · refine ⟨m1,h1,fun X v hX=>Ev.step (fun k=>rfl) ?_⟩
          simp only [cO.l3,cO.l3T,decide_eq_true_eq,c1,c2,if_true,hw,hcp,hrd];exact Ev.bind r1 (Ev.no ht (Ev.yes hb (h2 (fun k=>X (k+1)) v (Ev.shift hX))))
        · by_cases hg:(m[j]).f0=wq gone
          · refine ⟨m1,h1,fun X v hX=>Ev.step (fun k=>rfl) ?_⟩
            simp only [cO.l3,cO.l3T,decide_eq_true_eq,c1,c2,if_true,hw,hcp,hrd];exact Ev.bind r1 (Ev.no ht (Ev.no hb (Ev.yes hg (h2 (fun k=>X (k+1)) v (Ev.shift hX)))))
          · refine ⟨m3,h3,fun X v hX=>Ev.step (fun k=>rfl) ?_⟩
            simp only [cO.l3,cO.l3T,decide_eq_true_eq,c1,c2,if_true,hw,hcp,hrd];exact Ev.bind r1 (Ev.no ht (Ev.no hb (Ev.no hg (h4 (fun k=>X (k+1)) v (Ev.shift hX)))))
      · by_cases hb:(IntKind.wrap .u8 (BitVec.ofInt 8 (Int.fdiv keep 1) &&& BitVec.ofInt 8 1).toNat)=0
        · refine ⟨m1,h1,fun X v hX=>Ev.step (fun k=>rfl) ?_⟩
          simp only [cO.l3,cO.l3T,decide_eq_true_eq,c1,c2,if_true,hw,hcp,if_false,hrd];exact Ev.yes hb (h2 (fun k=>X (k+1)) v (Ev.shift hX))
        · by_cases hg:(m[j]).f0=wq gone
          · refine ⟨m1,h1,fun X v hX=>Ev.step (fun k=>rfl) ?_⟩
            simp only [cO.l3,cO.l3T,decide_eq_true_eq,c1,c2,if_true,hw,hcp,if_false,hrd];exact Ev.no hb (Ev.yes hg (h2 (fun k=>X (k+1)) v (Ev.shift hX)))
          · refine ⟨m3,h3,fun X v hX=>Ev.step (fun k=>rfl) ?_⟩
            simp only [cO.l3,cO.l3T,decide_eq_true_eq,c1,c2,if_true,hw,hcp,if_false,hrd];exact Ev.no hb (Ev.no hg (h4 (fun k=>X (k+1)) v (Ev.shift hX)))
  obtain ⟨fq,q1,q2⟩:=k2 core.length 0 (by omega) (by omega) core (PC.refl _);obtain ⟨jA,q3,q4⟩:=k3 odd.length 0 (by omega) (by omega) odd (PO.refl _);have m:MF fq jA:=⟨fun l hl=>by
    rcases q1.mem l hl with e | e
    · have:=mc l e;omega
    · rw [e];simp,fun g hg=>by
    obtain ⟨y,hy,_,e | e⟩:=q3.mem g hg
    · have:=mo y hy;rw [e];omega
    · rw [e];simp⟩
  obtain ⟨n,_,e,f1,f2,f3,f4⟩:=mM (p:=p) (c:=c) m (by rw [q1.len];omega) (by rw [q3.len];omega);refine ⟨fq,jA,q1,q3,decide (e=0),?_,fun hb=>(f4.1 (of_decide_eq_true hb)).2⟩;unfold cO.f;have g3:=q4 (fun k y13=>(dI.f k p c fq y13).bind fun aa=>some ((⟨p,c,fq,y13⟩:Fm),decide (aa=0))) _ (Ev.bind f1 (Ev.now _));have g2:=q2 (fun k y9=>cO.l3 (fun y13=>(dI.f k p c y9 y13).bind fun aa=>some ((⟨p,c,y9,y13⟩:Fm),decide (aa=0))) keep gone odd.length (odd.length:Int) c odd.length k 0 odd) _ g3;have g1:=k1 odd.length 0 (by omega) (by omega) (fun k y8=>cO.l2 (fun y9=>cO.l3 (fun y13=>(dI.f k p c y9 y13).bind fun aa=>some ((⟨p,c,y9,y13⟩:Fm),decide (aa=0))) keep gone y8.length (y8.length:Int) c y8.length k 0 y8) keep (core.length:Int) core.length k 0 core) _ g2;exact k0 core.length 0 (by omega) (by omega) (fun k y4=>cO.l1 (fun y8=>cO.l2 (fun y9=>cO.l3 (fun y13=>(dI.f k p c y9 y13).bind fun aa=>some ((⟨p,c,y9,y13⟩:Fm),decide (aa=0))) keep gone y8.length (y8.length:Int) c y8.length k 0 y8) keep (y4.length:Int) y4.length k 0 y4) odd (odd.length:Int) k 0 []) _ g1
end Go.Proofs.YtcomnjodjijcmaaGreat.Q
namespace Go.Proofs.YtcomnjodjijcmaaGreat.U
set_option linter.unusedVariables false
set_option linter.unusedSimpArgs false
open Go.RowKit Go.Proofs.YtcomnjodjijcmaaGreatW.dA Go.Proofs.YtcomnjodjijcmaaGreatW.eD M R P Q
section
theorem agE {x y g:List Sp} (h1:x=g∨x=[]) (h2:y=g∨y=[]):al x y:=fun a b=>by
  rcases h1 with e | e
  · rcases h2 with f | f
    · rw [e,f]
    · exact absurd f b
  · exact absurd e a
theorem yh {D:List Sp→List Sp→List Sp} (hD:oneOf D) {x y g:List Sp} (h1:x=g∨x=[]) (h2:y=g∨y=[]):D x y=g∨D x y=[]:=by
  rcases hD x y with e | e | e
  · rw [e];exact h1
  · rw [e];exact h2
  · exact .inr e
end
variable [Inhabited WT]
theorem wN (l:List Sp) (hl:l.length≤4611686018427387904):Ev (fun k=>fO.f k l l) true:=by
  obtain ⟨r,r1,r2⟩:=xW l l hl;have:=r2.2 rfl;subst this;exact r1
end Go.Proofs.YtcomnjodjijcmaaGreat.U
namespace Go.Proofs.YtcomnjodjijcmaaGreat.Q
set_option linter.unusedVariables false
set_option linter.unusedSimpArgs false
open Go.RowKit Go.Proofs.YtcomnjodjijcmaaGreatW.dA Go.Proofs.YtcomnjodjijcmaaGreatW.eD M R P
section
def spd (A B:Fm):Prop:=A.f0*(B.f2.length:Int)=B.f0*(A.f2.length:Int)
theorem oL {A B C:Fm} (hb:B.f2≠[]) (h:spd A B) (k:spd B C):spd A C:=by
  have hl:(B.f2.length:Int)≠0:=fun e=>hb (List.length_eq_zero_iff.1 (by omega));have h:A.f0*(B.f2.length:Int)=B.f0*(A.f2.length:Int):=h;have k:B.f0*(C.f2.length:Int)=C.f0*(B.f2.length:Int):=k;refine Int.eq_of_mul_eq_mul_right hl ?_;show A.f0*(C.f2.length:Int)*(B.f2.length:Int)=C.f0*(A.f2.length:Int)*(B.f2.length:Int);calc A.f0*(C.f2.length:Int)*(B.f2.length:Int)=A.f0*(B.f2.length:Int)*(C.f2.length:Int):=by rw [Int.mul_assoc,Int.mul_assoc,Int.mul_comm (C.f2.length:Int)]
    _=B.f0*(C.f2.length:Int)*(A.f2.length:Int):=by rw [h,Int.mul_assoc,Int.mul_assoc,Int.mul_comm (A.f2.length:Int)]
    _=C.f0*(A.f2.length:Int)*(B.f2.length:Int):=by rw [k,Int.mul_assoc,Int.mul_assoc,Int.mul_comm (B.f2.length:Int)]
theorem uT {O h:Fm} (so:sfF O) (s:acA O h) (hn:h.f2≠[]):spd h O:=by
  obtain ⟨_,_,_,e | ⟨d,n,e⟩⟩:=kZ so s
  · exact absurd e hn
  · have hl:h.f2.length≠0:=fun e=>hn (List.length_eq_zero_iff.1 e)
    show h.f0*(O.f2.length:Int)=O.f0*(h.f2.length:Int);rw [← e,Int.mul_assoc];congr 1;have:=Nat.div_mul_cancel d;rw [← Int.natCast_mul,this]
theorem aco {D:List Sp→List Sp→List Sp} {A B:Fm} (ha:A.f2≠[]):spd (gW D A B) A:=by
  have hl:A.f2.length≠0:=fun e=>ha (List.length_eq_zero_iff.1 e);show tF A B*(A.f2.length:Int)=A.f0*((gW D A B).f2.length:Int);rw [wM];unfold tF rt;rw [if_neg hl,Int.mul_assoc];congr 1;have:=Nat.div_mul_cancel (wJ (b:=B.f2.length) hl);rw [← Int.natCast_mul,this];rfl
theorem aec {A B:Fm} (ha:A.f2≠[]) (hb:B.f2≠[]) (h:spd A B):B.f0*((nF A B / B.f2.length:Nat):Int)=tF A B:=by
  have la:A.f2.length≠0:=fun e=>ha (List.length_eq_zero_iff.1 e);have lb:B.f2.length≠0:=fun e=>hb (List.length_eq_zero_iff.1 e);obtain ⟨u,hu⟩:=wJ (b:=B.f2.length) la;obtain ⟨w,hw⟩:B.f2.length ∣ nF A B:=by rw [pI];exact wJ lb
  have hu:nF A B=A.f2.length*u:=hu;have e1:tF A B=A.f0*(u:Int):=by
    unfold tF rt;rw [if_neg la];have:rn A.f2.length B.f2.length / A.f2.length=u:=by
      show nF A B / A.f2.length=u;rw [hu,Nat.mul_div_cancel_left _ (by omega)]
    rw [this]
  have e2:nF A B / B.f2.length=w:=by rw [hw,Nat.mul_div_cancel_left _ (by omega)]
  rw [e1,e2];have h:A.f0*(B.f2.length:Int)=B.f0*(A.f2.length:Int):=h;have e3:(A.f2.length:Int)*(u:Int)=(B.f2.length:Int)*(w:Int):=by rw [← Int.natCast_mul,← Int.natCast_mul,← hu,← hw]
  have hz:(B.f2.length:Int)≠0:=by omega
  refine Int.eq_of_mul_eq_mul_right hz ?_;calc B.f0*(w:Int)*(B.f2.length:Int)=B.f0*((B.f2.length:Int)*(w:Int)):=by rw [Int.mul_assoc,Int.mul_comm (w:Int)]
    _=B.f0*(A.f2.length:Int)*(u:Int):=by rw [← e3,Int.mul_assoc]
    _=A.f0*(u:Int)*(B.f2.length:Int):=by rw [← h,Int.mul_assoc,Int.mul_assoc,Int.mul_comm (u:Int)]
end
variable [Inhabited WT]
theorem adK {p c:Int} {core:List (List Sp)} {odd:List Gn} (h:SF p c core odd):∃ b,Ev (fun k=>eF.f k p c core odd) b∧(b=true↔∃ l∈core,l≠[]):=by
  obtain ⟨b,b1,b2⟩:=xZ h;have e1:∀ k l,iC.f k l=iI.f k l:=fun _ _=>rfl;have e0:∀ {γ:Type} (X0:Int→Option γ) (X1:Option γ) (c1:List (List Sp)) (c2:Int) (k:Nat),eF.l0 X0 X1 c1 c2 k=eP.l0 X0 X1 c1 c2 k:=fun X0 X1 c1 c2 k=>by
    induction k with
    | zero=>rfl
    | succ k ih =>
      show (fun v3=>eF.l0T X0 X1 c1 c2 (eF.l0 X0 X1 c1 c2 k) k v3)=fun v3=>eP.l0T X0 X1 c1 c2 (eP.l0 X0 X1 c1 c2 k) k v3;rw [ih];rfl
  refine ⟨b,Ev.congr (fun k => ?_) b1,b2⟩;show eF.l0 _ _ _ _ _ _=eP.l0 _ _ _ _ _ _;rw [e0]
theorem adL {A B:Fm} (ho:A.f3.length+B.f3.length≤6000):Ev (fun k=>eu.f k A.f0 A.f1 A.f2 A.f3 B.f0 B.f1 B.f2 B.f3) (iW A B):=by
  have hil:=l5 A B;unfold eu.f;have hcl:∀ k,eU.f k A.f3=some A.f3:=fun k=>by unfold eU.f;rw [if_pos (by omega)]
  simp only [hcl,Option.bind_some];refine Ev.yes (by omega) ?_;have hl:(A.f3++B.f3).length≤6000:=by simp;omega
  have k0:∀ (d j:Nat),(A.f3++B.f3).length - j=d→j≤(A.f3++B.f3).length→∀ (X:List Int→Option (List Int)) (v:List Int),X ((A.f3++B.f3).map fun g=>g.f0)=some v→Ev (fun k=>eu.l0 X (A.f3++B.f3) ((A.f3++B.f3).length:Int) k (((A.f3++B.f3).take j).map fun g=>g.f0) (j:Int)) v:=by
    intro d;induction d with
    | zero =>
      intro j hd hj X v hX;obtain rfl:j=(A.f3++B.f3).length:=by omega
      refine Ev.step (f:=fun _=>some v) (fun k => ?_) (Ev.now _);have c1:¬ ((A.f3++B.f3).length:Int)<((A.f3++B.f3).length:Int):=by omega
      simp only [eu.l0,eu.l0T,decide_eq_true_eq,c1,if_false,List.take_length];exact hX
    | succ d ih =>
      intro j hd hj X v hX;have hj':j<(A.f3++B.f3).length:=by omega
      have c1:(j:Int)<((A.f3++B.f3).length:Int):=by omega
      have c2:(0:Int)≤(j:Int):=by omega
      have hw:=nx c1 c2 (by omega);refine Ev.step (fun k=>rfl) ?_;simp only [eu.l0,eu.l0T,decide_eq_true_eq,c1,c2,if_true,hw,Q.rdG _ j hj'];have hlen:(((A.f3++B.f3).take j).map fun g=>g.f0).length+1≤17592186044416:=by simp;omega
      refine Ev.yes hlen ?_;have:=ih (j+1) (by omega) (by omega) X v hX;rw [List.take_succ_eq_append_getElem hj',List.map_append] at this;exact this
  refine k0 (A.f3++B.f3).length 0 (by omega) (by omega) _ _ ?_;rw [if_pos (by simp;omega),if_pos (by simp [oD];omega)];rfl
theorem zL {z:Fm} (nz:NF z) {A:Fm} (w:mR A.f0 A.f1 A.f2 A.f3) (hb:∀ i,bF z i=bF A i∨bF z i=[]) (hg:∀ i,gF z i=gF A i∨gF z i=[]) (hs:z.f2≠[]→A.f2≠[]∧spd z A):Ev (fun k=>dY.f k z.f0 z.f1 z.f2 z.f3 A.f0 A.f1 A.f2 A.f3) (true,0):=by
  have pA:=zJ w;have lz:=nz.lc;have ak:=nz.lo;have lA:=w.lc;have am:=w.lo;have p60:=w.p60;have hpz:=nz.hp;have ao:=nz.cn.s.hp0;have ai:=w.ok.s.hp0;have hil:=l5 A z;have af:∀ x∈iW A z,-100≤x∧x≤100:=fun x hx=>by
    rcases pJ.1 hx with ⟨g,hg,rfl⟩ | ⟨g,hg,rfl⟩
    · exact (w.ho g hg).1
    · exact nz.ix g hg
  have l0:∀ (d j:Nat),(iW A z).length - j=d→j≤(iW A z).length→Ev (fun k=>dY.l0 (some (false,(0:Int))) (some (true,0)) (iW A z) ((iW A z).length:Int) z.f0 z.f1 z.f2 z.f3 A.f0 A.f1 A.f2 A.f3 k (j:Int)) (true,0):=by
    intro d;induction d with
    | zero =>
      intro j hd hj;obtain rfl:j=(iW A z).length:=by omega
      refine Ev.step (f:=fun _=>some (true,0)) (fun k => ?_) (Ev.now _);have c1:¬ ((iW A z).length:Int)<((iW A z).length:Int):=by omega
      simp only [dY.l0,dY.l0T,decide_eq_true_eq,c1,if_false]
    | succ d ih =>
      intro j hd hj;have hj':j<(iW A z).length:=by omega
      have c1:(j:Int)<((iW A z).length:Int):=by omega
      have c2:(0:Int)≤(j:Int):=by omega
      have hw:=nx c1 c2 (by omega);refine Ev.step (fun k=>rfl) ?_;simp only [dY.l0,dY.l0T,decide_eq_true_eq,c1,c2,if_true,hw,rdI _ j hj'];have hr:=af (iW A z)[j] (List.getElem_mem hj');generalize (iW A z)[j]=x at hr;have vz:jJ z.f0 z.f1 z.f2 z.f3 x=(gF z x,0):=nz.v (by omega) (by omega);have vA:jJ A.f0 A.f1 A.f2 A.f3 x=(gF A x,0):=w.wL (by omega);refine Ev.bind (jV nz.cn.s x) (Ev.bind (jV w.ok.s x) ?_);rw [vz,vA];have ln:=nz.ln x;by_cases he:gF z x=[]
      · exact Ev.yes (by simp [he]) (ih (j+1) (by omega) (by omega))
      · rcases hg x with e | e
        · refine Ev.no (by simpa using he) ?_
          have:=U.wN (gF z x) (by omega);rw [← e];exact Ev.bind this (Ev.no (by simp) (ih (j+1) (by omega) (by omega)))
        · exact absurd e he
  have ho:=adL (A:=A) (B:=z) (by omega);have ah:=l0 (iW A z).length 0 (by omega) (by omega);obtain ⟨b,b1,b2⟩:=adK nz.cn.s;unfold dY.f;cases b with
  | false=>exact Ev.bind b1 (Ev.no (by simp) (Ev.bind ho ah))
  | true =>
    obtain ⟨l,hl1,hl2⟩:=b2.1 rfl;have ab:z.f2≠[]:=fun e=>by rw [e] at hl1;simp at hl1
    obtain ⟨ac,sp⟩:=hs ab;have za:z.f2.length≠0:=fun e=>ab (List.length_eq_zero_iff.1 e);have aa:A.f2.length≠0:=fun e=>ac (List.length_eq_zero_iff.1 e);have hn:nF z A≤144*12:=by
      unfold nF rn;rw [if_neg za,if_neg aa];exact Nat.le_trans (ad9 _ _) (Nat.mul_le_mul lz lA)
    have htl:0≤tF z A∧tF z A≤1099511627776:=by
      have e:=aec ab ac sp;have hq:nF z A / A.f2.length≤144*12:=Nat.le_trans (Nat.div_le_self _ _) hn;generalize nF z A / A.f2.length=q at e hq;have h1:A.f0*(q:Int)≤60*(q:Int):=Int.mul_le_mul_of_nonneg_right p60 (by omega);have h2:0≤A.f0*(q:Int):=Int.mul_nonneg ai (by omega);omega
    have rd:=rM nz.cn.s w.ok.s (by show nF z A≤6000;omega) htl.2;have raw:∀ i:Nat,i<nF z A→Ev (fun k=>gN.f k z.f0 z.f1 z.f2 z.f3 (i:Int)) (bF z i,0)∧Ev (fun k=>gN.f k A.f0 A.f1 A.f2 A.f3 (i:Int)) (bF A i,0):=fun i hi =>
      ⟨zG nz.cn.s (i:Int) (by omega) (by omega) (fun s hs=>by have:=nz.tb i (by omega) (by omega) s hs;omega),zG w.ok.s (i:Int) (by omega) (by omega) (fun s hs=>by have:=pA.tb i (by omega) (by omega) s hs;omega)⟩
    have c0:∀ (d j:Nat),nF z A - j=d→j≤nF z A→Ev (fun k=>dV.l0 (fun aj ap=>some (false,aj)) (fun y13=>some (y13,(0:Int))) (nF z A:Int) z.f0 z.f1 z.f2 z.f3 A.f0 A.f1 A.f2 A.f3 k true (j:Int)) (true,0):=by
      intro d;induction d with
      | zero =>
        intro j hd hj;obtain rfl:j=nF z A:=by omega
        refine Ev.step (f:=fun _=>some (true,0)) (fun k => ?_) (Ev.now _);have c1:¬ (nF z A:Int)<(nF z A:Int):=by omega
        simp only [dV.l0,dV.l0T,decide_eq_true_eq,c1,if_false]
      | succ d ih =>
        intro j hd hj;have c1:(j:Int)<(nF z A:Int):=by omega
        have hw:=nx c1 (by omega) (by omega);refine Ev.step (fun k=>rfl) ?_;simp only [dV.l0,dV.l0T,decide_eq_true_eq,c1,if_true,hw];obtain ⟨r1,r2⟩:=raw j (by omega);refine Ev.bind r1 (Ev.no (by simp) ?_);by_cases he:bF z (j:Int)=[]
        · exact Ev.yes (by simp [he]) (ih (j+1) (by omega) (by omega))
        · refine Ev.no (by simpa using he) (Ev.bind r2 (Ev.no (by simp) ?_))
          have lb:=nz.lb (j:Int);rcases hb (j:Int) with e | e
          · have:=U.wN (bF z (j:Int)) (by omega)
            rw [← e];exact Ev.bind this (ih (j+1) (by omega) (by omega))
          · exact absurd e he
    have cores:Ev (fun k=>dV.f k z.f0 z.f1 z.f2 z.f3 A.f0 A.f1 A.f2 A.f3) (true,0):=by
      unfold dV.f;have hc:=w.ok.s.hc;refine Ev.bind rd (Ev.no (by simp) (Ev.yes (by simp;omega) (Ev.no (by omega) ?_)));have e1:wq (Int.tdiv ((rn z.f2.length A.f2.length:Nat):Int) A.f1)=((nF z A / A.f2.length:Nat):Int):=by
        rw [hc,show Int.tdiv ((rn z.f2.length A.f2.length:Nat):Int) (A.f2.length:Int)=((nF z A / A.f2.length:Nat):Int) from rfl];have hq:nF z A / A.f2.length≤144*12:=Nat.le_trans (Nat.div_le_self _ _) hn;generalize nF z A / A.f2.length=q at hq;exact iX (by omega) (by omega)
      have e2:wq (A.f0*wq (Int.tdiv ((rn z.f2.length A.f2.length:Nat):Int) A.f1))=tF z A:=by
        rw [e1,aec ab ac sp];exact iX (by omega) (by omega)
      have e3:decide (wq (A.f0*wq (Int.tdiv ((rn z.f2.length A.f2.length:Nat):Int) A.f1))=rt z.f0 z.f2.length A.f0 A.f2.length)=true:=decide_eq_true e2;simp only [e3];exact c0 (nF z A) 0 (by omega) (by omega)
    exact Ev.bind b1 (Ev.yes rfl (Ev.bind cores (Ev.no (by simp) (Ev.no (by simp) (Ev.bind ho ah)))))
end Go.Proofs.YtcomnjodjijcmaaGreat.Q
namespace Go.Proofs.YtcomnjodjijcmaaGreat.Q
set_option linter.unusedVariables false
set_option linter.unusedSimpArgs false
open Go.RowKit Go.Proofs.YtcomnjodjijcmaaGreatW.dA Go.Proofs.YtcomnjodjijcmaaGreatW.eD M R P
variable [Inhabited WT]
end Go.Proofs.YtcomnjodjijcmaaGreat.Q
namespace Go.Proofs.YtcomnjodjijcmaaGreat.Q
set_option linter.unusedVariables false
set_option linter.unusedSimpArgs false
open Go.RowKit Go.Proofs.YtcomnjodjijcmaaGreatW.dA Go.Proofs.YtcomnjodjijcmaaGreatW.eD M R P
section
theorem agF {A B:Fm} (a:NF A) (b:NF B) (h:oK A B) (i:Int):al (gF A i) (gF B i):=by
  by_cases hi:i∈iW A B
  · have:=kY a b i hi
    have q:=h.2.2 i hi;rw [a.v (by omega) (by omega),b.v (by omega) (by omega)] at q;exact q
  · rw [kH (fun g hg e=>hi (pJ.2 (.inl ⟨g,hg,e⟩))),kH (fun g hg e=>hi (pJ.2 (.inr ⟨g,hg,e⟩)))]
    by_cases hn:nF A B=0
    · intro h1
      exact absurd (nM (List.length_eq_zero_iff.1 (uR hn).1) i) h1
    · obtain ⟨s1,s2⟩:=uQ a.cn.s b.cn.s h.1
      have q1:=Int.emod_nonneg i (show (nF A B:Int)≠0 by omega);have q2:=Int.emod_lt_of_pos i (show (0:Int)<(nF A B:Int) by omega);have q3:i % (nF A B:Int)+i / (nF A B:Int)*(nF A B:Int)=i:=by
        have:=Int.emod_add_mul_ediv i (nF A B:Int);rw [Int.mul_comm] at this;exact this
      have e1:=mQ s1 (i % (nF A B:Int)) (i / (nF A B:Int));have e2:=mQ s2 (i % (nF A B:Int)) (i / (nF A B:Int));rw [q3] at e1 e2;have q:=h.2.1 (i % (nF A B:Int)).toNat (by omega);rw [show (((i % (nF A B:Int)).toNat:Nat):Int)=i % (nF A B:Int) by omega] at q;rw [e1,e2];intro h1 h2;rw [q (fun e=>h1 (by rw [e];rfl)) (fun e=>h2 (by rw [e];rfl))]
end
variable [Inhabited WT]
end Go.Proofs.YtcomnjodjijcmaaGreat.Q
namespace Go.Proofs.YtcomnjodjijcmaaGreat.U
set_option linter.unusedVariables false
set_option linter.unusedSimpArgs false
open Go.RowKit Go.Proofs.YtcomnjodjijcmaaGreatW.dA Go.Proofs.YtcomnjodjijcmaaGreatW.eD M R P Q
variable [Inhabited WT]
end Go.Proofs.YtcomnjodjijcmaaGreat.U
namespace Go.Proofs.YtcomnjodjijcmaaGreat.U
set_option linter.unusedVariables false
set_option linter.unusedSimpArgs false
open Go.RowKit Go.Proofs.YtcomnjodjijcmaaGreatW.dA Go.Proofs.YtcomnjodjijcmaaGreatW.eD M R P Q
section
theorem afq {x g:List Sp} (h:x=g∨x=[]):DU x g=g:=by
  unfold DU;rcases h with e | e
  · rw [e];split <;> rfl
  · rw [if_pos e]
theorem afr {x g:List Sp} (h:x=g∨x=[]):DC x g=x:=by
  unfold DC;by_cases hg:g=[]
  · rw [if_pos hg]
    rcases h with e | e
    · rw [e,hg]
    · rw [e]
  · rw [if_neg hg]
theorem afs {x g:List Sp} (h:x=g∨x=[]):DL x g=[]:=by
  unfold DL;by_cases hg:g=[]
  · rw [if_pos hg]
    rcases h with e | e
    · rw [e,hg]
    · rw [e]
  · rw [if_neg hg]
theorem agG {x y:List Sp} (h:DC x y≠[]):x≠[]∧y≠[]:=by
  unfold DC at h;split at h
  · exact absurd rfl h
  · exact ⟨h,by assumption⟩
theorem aft {z:Fm} (nz:NF z) (h:z.f2≠[]):∃ i,bF z i≠[]:=by
  obtain ⟨l,hl,hn⟩:=nz.ga h;obtain ⟨j,hj,rfl⟩:=List.mem_iff_getElem.1 hl;refine ⟨0*z.f1+j,?_⟩;have e:bF z (0*z.f1+j)=z.f2[j].map (fG (0*z.f0)):=mO nz.cn.s 0 j hj;rw [e];simpa using hn
theorem agH {A:Fm} {i:Int} (h:bF A i≠[]):A.f2≠[]:=fun e=>h (nM e i)
end
variable [Inhabited WT]
theorem SetsPart (p c:Int) (core:List (List Sp)) (odd:List Gn) (ff:abL p c core odd) (p' c':Int) (fq:List (List Sp)) (jA:List Gn) (aj:abL p' c' fq jA) (keep:Int) (hk:(Lit.int .u8 keep).wf=true) (gone:Int) (hg:(Lit.int .i8 gone).wf=true):∃ k,fU.f k p c core odd p' c' fq jA keep gone=some true:=by
  refine Ev.rounds ?_;unfold fU.f;obtain ⟨na,af,ak⟩:=acd (p:=p) (c:=c) ff.mf;obtain ⟨nb,ai,am⟩:=acd (p:=p') (c:=c') aj.mf;cases na with
  | false=>exact Ev.bind af (Ev.yes rfl (Ev.bind lN (Ev.now _)))
  | true =>
  cases nb with
  | false=>exact Ev.bind af (Ev.no (by simp) (Ev.bind ai (Ev.yes rfl (Ev.bind lN (Ev.now _)))))
  | true =>
  have wa:=ak rfl;have wd:=am rfl;obtain ⟨c1,o1,P1,Q1,b1,f1,g1⟩:=afp wa keep gone;refine Ev.bind af (Ev.no (by simp) (Ev.bind ai (Ev.no (by simp) (Ev.bind f1 ?_))));cases b1 with
  | false=>exact Ev.yes rfl (Ev.bind lN (Ev.now _))
  | true =>
  refine Ev.no (by simp) ?_;have w1:=acn wa P1 Q1 (g1 rfl);obtain ⟨A,cA,sA⟩:=kN wa.ok.s;obtain ⟨B,cB,sB⟩:=kN w1.ok.s;obtain ⟨E,cE,sE⟩:=kN wd.ok.s;have a:Sml A:=uS (O:=⟨p,c,core,odd⟩) wa sA;have b:Sml B:=uS (O:=⟨p,c,c1,o1⟩) w1 sB;have e:Sml E:=uS (O:=⟨p',c',fq,jA⟩) wd sE;have aa:=adI b a;have ac:=adI a e;obtain ⟨hf,_⟩:=adJ (O:=⟨p,c,c1,o1⟩) (O':=⟨p,c,core,odd⟩) w1.ok.s wa.ok.s sB sA P1.len rfl;have gA:∀ i,gF A i=gF ⟨p,c,core,odd⟩ i:=fun i=>pK (O:=⟨p,c,core,odd⟩) wa.ok.s sA i;have bA:∀ i,bF A i=bF ⟨p,c,core,odd⟩ i:=fun i=>pO (O:=⟨p,c,core,odd⟩) wa.ok.s sA i;have gE:∀ i,gF E i=gF ⟨p',c',fq,jA⟩ i:=fun i=>pK (O:=⟨p',c',fq,jA⟩) wd.ok.s sE i;have bE:∀ i,bF E i=bF ⟨p',c',fq,jA⟩ i:=fun i=>pO (O:=⟨p',c',fq,jA⟩) wd.ok.s sE i;have gB:∀ i,gF B i=gF A i∨gF B i=[]:=fun i=>by
    rw [pK (O:=⟨p,c,c1,o1⟩) w1.ok.s sB,gA];exact afm P1 Q1 i
  have bB:∀ i,bF B i=bF A i∨bF B i=[]:=fun i=>by
    rw [pO (O:=⟨p,c,c1,o1⟩) w1.ok.s sB,bA];exact afn (odd:=odd) P1 i
  have hal:oK B A:=⟨hf,fun i _=>agE (bB _) (.inl rfl),fun i hi=>by
    have:=kY b.nf a.nf i hi;rw [b.nf.v (by omega) (by omega),a.nf.v (by omega) (by omega)];exact agE (gB i) (.inl rfl)⟩
  have H:=b.nf.of a.nf aa;obtain ⟨r7,e7,s7⟩:=adG cB cA H (qy aff b.nf a.nf aa);obtain ⟨r8,e8,s8⟩:=ad7 cB cA H (qy wK b.nf a.nf aa);obtain ⟨r9,e9,s9⟩:=afe cB cA H (qy afg b.nf a.nf aa);obtain ⟨u,ku,_,rfl,vu⟩:=qz aff b.nf a.nf aa hal s7 a.nf.ord (fun i=>yh agN (gB i) (.inl rfl));obtain ⟨v,kv,_,rfl,vv⟩:=qz wK b.nf a.nf aa hal s8 a.nf.ord (fun i=>yh agO (gB i) (.inl rfl));obtain ⟨w,kw,_,rfl,vw⟩:=qz afg b.nf a.nf aa hal s9 a.nf.ord (fun i=>yh agP (gB i) (.inl rfl));obtain rfl:u=A:=acg (ku.can (rO aff b.nf a.nf aa)) a.nf.cn (fun i=>by rw [vu,afq (gB i)]);obtain rfl:v=B:=acg (kv.can (rO wK b.nf a.nf aa)) b.nf.cn (fun i=>by rw [vv,afr (gB i)]);obtain rfl:w=noF:=acg (kw.can (rO afg b.nf a.nf aa)) ach (fun i=>by rw [vw,afs (gB i),agw]);refine Ev.bind e7 (Ev.bind e8 (Ev.bind e9 (Ev.no (by simp) (Ev.no (by simp) (Ev.no (by simp) (Ev.bind cA (Ev.bind (alf a.nf.cn.s) (Ev.no (by simp) (Ev.bind cB (Ev.bind (alf b.nf.cn.s) (Ev.no (by simp) (Ev.bind (alf ach.s) (Ev.no (by simp) ?_)))))))))))));obtain ⟨ap,e15,s15⟩:=ad7 cA cE (a.nf.of e.nf ac) (qy wK a.nf e.nf ac);refine Ev.bind e15 ?_;by_cases hae:oK u E
  case neg =>
    obtain rfl:=s15.1 hae;exact Ev.yes (by simp) (Ev.bind lN (Ev.now _))
  obtain ⟨z,kz,gz,rfl,vz⟩:=qz wK a.nf e.nf ac hae s15 a.nf.ord (fun i=>by unfold DC;split;exact .inr rfl;exact .inl rfl);have Oz:=rO wK a.nf e.nf ac;have nz:NF z:=(afl wK a e hae.1 gz).nf kz;have zb:∀ i,bF z i=DC (bF u i) (bF E i):=fun i=>by rw [pO Oz kz,zI wK a.nf.cn.s e.nf.cn.s hae.1]
  have ao:∀ i,al (bF u i) (bF E i):=fun i=>by
    by_cases hn:nF u E=0
    · intro h1
      exact absurd (nM (List.length_eq_zero_iff.1 (uR hn).1) i) h1
    · obtain ⟨s1,s2⟩:=uQ a.nf.cn.s e.nf.cn.s hae.1
      have q1:=Int.emod_nonneg i (show (nF u E:Int)≠0 by omega);have q2:=Int.emod_lt_of_pos i (show (0:Int)<(nF u E:Int) by omega);have q3:i % (nF u E:Int)+i / (nF u E:Int)*(nF u E:Int)=i:=by
        have:=Int.emod_add_mul_ediv i (nF u E:Int);rw [Int.mul_comm] at this;exact this
      have e1:=mQ s1 (i % (nF u E:Int)) (i / (nF u E:Int));have e2:=mQ s2 (i % (nF u E:Int)) (i / (nF u E:Int));rw [q3] at e1 e2;have q:=hae.2.1 (i % (nF u E:Int)).toNat (by omega);rw [show (((i % (nF u E:Int)).toNat:Nat):Int)=i % (nF u E:Int) by omega] at q;rw [e1,e2];intro h1 h2;rw [q (fun e=>h1 (by rw [e];rfl)) (fun e=>h2 (by rw [e];rfl))]
  have ab:∀ {x y:List Sp},DC x y=x∨DC x y=[]:=fun {x y}=>by unfold DC;split;exact .inr rfl;exact .inl rfl
  have ah:∀ {x y:List Sp},al x y→DC x y=y∨DC x y=[]:=fun {x y} h=>by
    by_cases hx:DC x y=[]
    · exact .inr hx
    · obtain ⟨h1,h2⟩:=agG hx
      left
      rw [← h h1 h2];rcases ab (x:=x) (y:=y) with e | e
      · rw [← h h1 h2] at e;exact e
      · exact absurd e hx
  have base:z.f2≠[]→u.f2≠[]∧E.f2≠[]∧spd z (gW DC u E)∧(gW DC u E).f2≠[]:=fun hz=>by
    obtain ⟨i,hi⟩:=aft nz hz;rw [zb] at hi;obtain ⟨h1,h2⟩:=agG hi;refine ⟨agH h1,agH h2,uT Oz kz hz,fun e0=>hz ?_⟩;have:=(kZ Oz kz).1;exact List.length_eq_zero_iff.1 (by rw [e0] at this;simpa using this)
  have p1:=zL (A:=⟨p,c,core,odd⟩) nz wa (fun i=>by rw [zb,← bA];exact ab) (fun i=>by rw [vz,← gA];exact ab) (fun hz=>by
    obtain ⟨h1,h2,h3,h4⟩:=base hz;have h5:=uT (O:=⟨p,c,core,odd⟩) wa.ok.s sA h1;refine ⟨fun e0=>h1 ?_,oL h1 (oL h4 h3 (aco h1)) h5⟩;have:=(kZ (O:=⟨p,c,core,odd⟩) wa.ok.s sA).1;exact List.length_eq_zero_iff.1 (by have e0:core=[]:=e0;simp only [e0] at this;simpa using this))
  have p2:=zL (A:=⟨p',c',fq,jA⟩) nz wd (fun i=>by rw [zb,← bE];exact ah (ao i)) (fun i=>by rw [vz,← gE];exact ah (agF a.nf e.nf hae i)) (fun hz=>by
    obtain ⟨h1,h2,h3,h4⟩:=base hz;have h5:=uT (O:=⟨p',c',fq,jA⟩) wd.ok.s sE h2;have h6:spd (gW DC u E) E:=by
      have q:spd (gW DC E u) E:=aco h2;have et:tF u E=tF E u:=by
        rcases hae.1 with g | g | g
        · exact absurd g h1
        · exact absurd g h2
        · exact g
      have q:tF E u*(E.f2.length:Int)=E.f0*((gW DC E u).f2.length:Int):=q;show tF u E*(E.f2.length:Int)=E.f0*((gW DC u E).f2.length:Int);rw [et,q,wM,wM,pI]
    refine ⟨fun e0=>h2 ?_,oL h2 (oL h4 h3 h6) h5⟩;have:=(kZ (O:=⟨p',c',fq,jA⟩) wd.ok.s sE).1;exact List.length_eq_zero_iff.1 (by have e0:fq=[]:=e0;simp only [e0] at this;simpa using this))
  exact Ev.no (by simp) (Ev.bind p1 (Ev.bind p2 (Ev.yes rfl (Ev.yes rfl (Ev.yes (by simp) (Ev.yes (by simp) (Ev.bind lN (Ev.now _))))))))
end Go.Proofs.YtcomnjodjijcmaaGreat.U
namespace Go.Proofs.YtcomnjodjijcmaaGreat.setsPart
open Go.ChangeShapes Go.WideShapes Go.ChangeAt Go.RowKit
open Go.ChangeMaps (open_string shut_string)
set_option linter.unusedVariables false
theorem own:ownKnob Tryz.prog.godebug=none:=by kernel_rfl
theorem laidOut:laidOutB Tryz.prog=true:=by kernel_rfl
set_option maxRecDepth 100000 in
theorem lifted (os:Os) (started:os.Started) (H:Type) (enc:TypeId × Value→H) :
    ReturnsInHanded {} Tryz.checked os 6 .any (Rows.setsPartSpec.pre6 enc Tryz.prog Tryz.f6 Rows.setsPartRow.domain false) (Rows.setsPartSpec.post enc Tryz.prog Tryz.f6 false true false false):=by
  refine returnsInHanded_of_change_sized (C:=Tryz.checked) own started (by kernel_rfl) Tryz.func6
    (ChangeSpec.witness6 (enc:=enc) (C:=Tryz.checked) false ⟨#[],#[.agg #[.int .i64 0,.int .i64 0,.slice none 0 0,.slice none 0 0],.agg #[.int .i64 0,.int .i64 0,.slice none 0 0,.slice none 0 0],.int .u8 0,.int .i8 0],[]⟩ 8 (by kernel_rfl) (by kernel_rfl) (by kernel_rfl) (by kernel_rfl)) ?_
  intro W base args ds gs before hval0 hW hcnd hsz0 _;have hval:∀ (j:Nat) t v,Tryz.f6.params[j]? = some t→args[j]? = some v→Value.okWide Tryz.prog W .any base t v:=hval0;have hW':=hW;obtain ⟨p,q,ao,hV,rfl,hfz,hnd⟩:=hW;have hA:DataW.TrodAll enc Tryz.prog W 0 (fun _=>true) true Tryz.f6.params.toList args.toList ds p:=ao;rw [Tryz.params6] at hA hval;obtain ⟨v0,aF,d0,ds0,p0,q0,hargs,rfl,rfl,h0,r0⟩:=trodAll_cons hA;obtain ⟨v1,vs1,d1,ds1,p1,q1,rfl,rfl,rfl,h1,r1⟩:=trodAll_cons r0;obtain ⟨v2,vs2,d2,aG,p2,q2,rfl,rfl,rfl,h2,r2⟩:=trodAll_cons r1;obtain ⟨v3,vs3,d3,ds3,p3,q3,rfl,rfl,rfl,h3,r3⟩:=trodAll_cons r2;obtain ⟨rfl,rfl,rfl⟩:=trodAll_nil r3;obtain rfl:args=#[v0,v1,v2,v3]:=by cases args;simp_all
  obtain ⟨rfl,rfl⟩:=trodVars_none hV;have k0:=h0;have aq:∀ x∈p0,x.block<W.heap.size:=by obtain ⟨m,hm⟩:=k0;exact DataW.trod_lt m _ _ _ hm
  obtain ⟨aa,ab,aH,aI,ac,aJ,aK,af,rfl,au,aw,ax,ay,az⟩:=P.wG (hval 0 25 v0 rfl rfl) h0;have k1:=h1;have aA:∀ x∈p1,x.block<W.heap.size:=by obtain ⟨m,hm⟩:=k1;exact DataW.trod_lt m _ _ _ hm
  obtain ⟨ah,ai,aL,aM,aj,aN,aO,ak,rfl,aB,fx1,aC,aD,aE⟩:=P.wG (hval 1 25 v1 rfl rfl) h1;obtain ⟨a2,rfl,rfl,rfl,w2⟩:=open_int Tryz.underlying5 (hval 2 5 v2 rfl rfl) h2;obtain ⟨a3,rfl,rfl,rfl,w3⟩:=open_int Tryz.underlying46 (hval 3 46 v3 rfl rfl) h3;clear ao hval0 hsz0;obtain ⟨kk,hP⟩:=U.SetsPart aa ab ac af az ah ai aj ak aE a2 w2 a3 w3;refine (M.abI (R.fU.ok kk) (W:=W) (a:=((⟨aa,ab,ac,af⟩:P.S25),(⟨ah,ai,aj,ak⟩:P.S25),a2,a3,())) (vs:=[.agg #[.int .i64 aa,.int .i64 ab,.slice _ ac.length _,.slice _ af.length _],.agg #[.int .i64 ah,.int .i64 ai,.slice _ aj.length _,.slice _ ak.length _],.int .u8 a2,.int .i8 a3]) ⟨⟨_,M.fm0 _ _ au aw ax ay,rfl⟩,⟨⟨_,M.fm0 _ _ aB fx1 aC aD,rfl⟩,⟨⟨_,rfl,rfl⟩,⟨⟨_,rfl,rfl⟩,trivial⟩⟩⟩⟩ hP).mono fun e W' ⟨he,ap⟩ => ?_;have am:=ap;subst he;exact ⟨_,rfl,_,_,_,[],_,[],hW',trodAll_mk1 (shut_bool Tryz.underlying4 _),(trodAll_cons_mk (Below.trod laidOut (by kernel_rfl) (of_decide_eq_true (by kernel_rfl)) k0 am aq) (trodAll_cons_mk (Below.trod laidOut (by kernel_rfl) (of_decide_eq_true (by kernel_rfl)) k1 am aA) (trodAll_cons_mk (shut_int Tryz.underlying5 w2) (trodAll_cons_mk (shut_int Tryz.underlying46 w3) trodAll_mk0)))),rfl,am.frame _,fun h=>by cases h⟩
theorem over:Rows.setsPartRow.holds Tryz.pinned (OpenSpec.ofChange Rows.setsPartSpec) :=
  OpenClaim.holds_of_wide 6 Tryz.f6 rfl rfl rfl rfl rfl rfl rfl ⟨rfl,rfl,rfl,rfl,rfl⟩ rfl rfl rfl rfl rfl (by kernel_rfl) Tryz.func6 (by kernel_rfl)
    (of_decide_eq_true (by kernel_rfl)) (by unfold Func.isWrapper;first | (rw [if_pos (by decide +kernel)];kernel_rfl) | (rw [if_neg (by decide +kernel)];exact ⟨rfl,rfl⟩))
    (fun os started H enc _=>lifted os started H enc)
theorem proved:Rows.SetsPartSaid:=over
#print axioms proved
end Go.Proofs.YtcomnjodjijcmaaGreat.setsPart
namespace Go.Proofs.YtcomnjodjijcmaaGreat
theorem setsPart_holds:Rows.SetsPartSaid:=setsPart.proved
end Go.Proofs.YtcomnjodjijcmaaGreat

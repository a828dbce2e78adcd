/- The law ConvWithin: it holds at every input that its row reads. No condition of its own. -/
import Derived.Test.YtongeknogcboiaaGreatYW18
import Derived.Test.YtongeknogcboiaaGreatRows
import Derived.Test.YtongeknogcboiaaGreatYW15
import Derived.Test.YtongeknogcboiaaGreatYW16
import Derived.WalkKit
import Derived.ProofKit
import Derived.OpenShut
import Derived.ShutString
import Derived.ChangeOld
import Derived.Below
import Derived.SizedLaws
namespace Go.Proofs.YtongeknogcboiaaGreat.Q
set_option linter.unusedVariables false
set_option linter.unusedSimpArgs false
open Go.RowKit Go.Proofs.YtongeknogcboiaaGreatW.fP Go.Proofs.YtongeknogcboiaaGreatW.iD M R P
variable {γ:Type} {p c pa ca:Int} {core ka:List (List Sp)} {odd oa:List Gn}
def inS (l m:List Sp):Bool:=decide (nW (fun a b=>a && !b) l m=[])
def meS (l m:List Sp):Bool:=decide (nW (fun a b=>a&&b) l m≠[])
theorem abv {lo hi:Int} {l:List Sp} (h:SL lo hi l) (hn:l≠[]):∃ x,lD l x=true:=by
  refine Classical.byContradiction fun hx=>hn (h.empty fun x => ?_);rw [Bool.eq_false_iff];exact fun e=>hx ⟨x,e⟩
theorem abw {l m:List Sp} (hl:SL (-1099511627776) 1099511627776 l) (hm:SL (-1099511627776) 1099511627776 m):inS l m=true↔∀ x,lD l x=true→lD m x=true:=by
  obtain ⟨k1,k2⟩:=aaZ (fun a b=>a && !b) rfl hl hm;unfold inS;rw [decide_eq_true_eq];constructor
  · intro e x hx
    have:=k2 x;rw [e] at this;simp only [tT,hx,Bool.true_and] at this;simpa using this
  · intro e
    refine k1.empty fun x => ?_;rw [k2];cases hx:lD l x with
    | false=>rfl
    | true=>simp [e x hx]
theorem xw {l m:List Sp} (hl:SL (-1099511627776) 1099511627776 l) (hm:SL (-1099511627776) 1099511627776 m):meS l m=true↔∃ x,lD l x=true∧lD m x=true:=by
  obtain ⟨k1,k2⟩:=aaZ (fun a b=>a&&b) rfl hl hm;unfold meS;rw [decide_eq_true_eq];constructor
  · intro e
    obtain ⟨x,hx⟩:=abv k1 e;rw [k2,Bool.and_eq_true] at hx;exact ⟨x,hx⟩
  · rintro ⟨x,h1,h2⟩ e
    have:=k2 x;rw [e,h1,h2] at this;cases this
theorem adf {i x:Int} (h:SF p c core odd) (e:Ex p c core odd i) (hx:lD (gT p c core odd i) x=true):gLo p c core odd i≤x∧x≤gHi p c core odd i:=by
  have hs:=h.rF e;obtain ⟨n,f1,f2⟩:=lI (p:=p) e.n;have:=hs.qQ hx;omega
theorem abx (h:SF p c core odd) {set:List Sp} (hS:SL (-1099511627776) 1099511627776 set):afs p c core odd (fun m=>meS (gT p c core odd m) set) set:=fun m hm e=>by
  obtain ⟨x,h1,h2⟩:=(xw (h.rF hm) hS).1 e;obtain ⟨s,hs,s1,s2⟩:=nu.1 h2;have:=adf h hm h1;exact ⟨s,hs,by omega,by omega⟩
theorem aby (h:SF p c core odd) {set:List Sp} (hS:SL (-1099511627776) 1099511627776 set):afs p c core odd (fun m=>inS (gT p c core odd m) set) set:=fun m hm e=>by
  obtain ⟨x,h1⟩:=abv (h.rF hm) (lI (p:=p) hm.n).1;obtain ⟨s,hs,s1,s2⟩:=nu.1 ((abw (h.rF hm) hS).1 e x h1);have:=adf h hm h1;exact ⟨s,hs,by omega,by omega⟩
structure BoS (p c:Int) (core:List (List Sp)) (odd:List Gn) (so:Int→Bool) (r:Int × Int × Bool):Prop where
  y:r.2.2=true→(Ex p c core odd r.1∧so r.1=true)∧(Ex p c core odd r.2.1∧so r.2.1=true)∧∀ m,Ex p c core odd m→so m=true→r.1≤m∧m≤r.2.1
  n:r.2.2=false→r.1=0∧r.2.1=0∧∀ m,Ex p c core odd m→so m=false
theorem yO (h:SF p c core odd) (i:Int):SL (-1099511627776) 1099511627776 (thV p c core odd i):=by
  unfold thV;rcases mF h i with ⟨e,e1,e2⟩ | ⟨e,e1⟩
  · rw [e1];exact h.rF e
  · rw [e1];trivial
theorem abz (h:FOK p c core odd) {so:Int→Bool} {r1 r2:Option Int} (h1:afr p c core odd so r1) (h2:aei p c core odd so r2):BoS p c core odd so (match r1 with | none=>(0,0,false) | some j=>(j,r2.getD 0,true)):=by
  cases r1 with
  | none=>exact ⟨(fun e=>by cases e),fun _=>⟨rfl,rfl,h1⟩⟩
  | some j =>
    obtain ⟨a1,a2,a3⟩:=h1;cases r2 with
    | none=>have:=h2 j a1;rw [a2] at this;cases this
    | some m =>
      obtain ⟨b1,b2,b3⟩:=h2;exact ⟨fun _=>⟨⟨a1,a2⟩,⟨b1,b2⟩,fun q hq hs=>⟨a3 q hq hs,b3 q hq hs⟩⟩,fun e=>by cases e⟩
theorem qX:@fH.l1=@fG.l1:=by kernel_rfl
theorem abA:@fH.l2=@fG.l2:=by kernel_rfl
theorem abB:@fH.l3=@fG.l3:=by kernel_rfl
variable [Inhabited WT]
theorem aek (h:FOK p c core odd) {so:Int→Bool} {set:List Sp} (hS:SL (-1099511627776) 1099511627776 set) (hso:∀ m,Ex p c core odd m→Ev (fun k=>gQ.f k (gT p c core odd m) set) (so m)) (hh:afs p c core odd so set) :
    ∃ r,afr p c core odd so r∧∀ (X0:Nat→X5T γ) (X1:Nat→X6T γ) (v:γ),(r=none→Ev (fun k=>X1 k pa ca ka oa p c core odd pa ca ka oa p c core odd set p c core odd) v)→(∀ j,r=some j→Ev (fun k=>X0 k pa ca ka oa p c core odd pa ca ka oa p c core odd set p c core odd j) v) →
      Ev2 (fun k k'=>fH.l0 (X0 k') (X1 k') set (set.length:Int) k 0 pa ca ka oa p c core odd pa ca ka oa p c core odd set p c core odd) v:=by
  have hl:set.length≤2199023255553:=by have:=SL.len (lo:=0) hS;omega
  have loop:∀ (rest pre:List Sp),set=pre++rest→(∀ m,Ex p c core odd m→(∃ s∈pre,gLo p c core odd m≤s.f1∧s.f0≤gHi p c core odd m)→so m=false) →
      ∃ r,afr p c core odd so r∧∀ (X0:Nat→X5T γ) (X1:Nat→X6T γ) (v:γ),(r=none→Ev (fun k=>X1 k pa ca ka oa p c core odd pa ca ka oa p c core odd set p c core odd) v)→(∀ j,r=some j→Ev (fun k=>X0 k pa ca ka oa p c core odd pa ca ka oa p c core odd set p c core odd j) v) →
        Ev2 (fun k k'=>fH.l0 (X0 k') (X1 k') set (set.length:Int) k (pre.length:Int) pa ca ka oa p c core odd pa ca ka oa p c core odd set p c core odd) v:=by
    intro rest;induction rest with
    | nil =>
      intro pre hp hi;refine ⟨none,fun m hm => ?_,fun X0 X1 v hn hs=>Ev2.step (fun k m=>rfl) ?_⟩
      · cases e:so m with
        | false=>rfl
        | true =>
          have:=hi m hm (by have:=hh m hm e;rw [hp,List.append_nil] at this;exact this);rw [e] at this;cases this
      · have c1:¬ (pre.length:Int)<(set.length:Int):=by rw [hp];simp
        simp only [fH.l0,fH.l0T,qX,decide_eq_true_eq,c1,if_false];exact Ev2.right (hn rfl)
    | cons s r ih =>
      intro pre hp hi;have hlen:pre.length+1≤set.length:=by rw [hp];simp
      have hrd:gS set (pre.length:Int)=s:=by rw [hp];exact rdS _ _ _
      have c1:(pre.length:Int)<(set.length:Int):=by omega
      have c2:(0:Int)≤(pre.length:Int):=by omega
      have hw:=nx c1 c2 (by omega);obtain ⟨a,a1,a2⟩:=uy h s.f0;have hs0:=SL.ticks hS (s:=s) (by rw [hp];simp);have base:∀ m,Ex p c core odd m→s.f0≤gHi p c core odd m→a.2=true∧a.1≤m:=fun m hm hx=>by
        cases e:a.2 with
        | true=>exact ⟨rfl,(a2.y e).2.2 m hm hx⟩
        | false=>exact ((a2.n e).2 m hm hx).elim
      obtain ⟨b,hb1,hb2⟩:∃ b,(a.2=true→b=a.1)∧(a.2=false→b=1099511627777):=by
        cases a.2 with
        | true=>exact ⟨a.1,fun _=>rfl,(fun q=>by cases q)⟩
        | false=>exact ⟨1099511627777,(fun q=>by cases q),fun _=>rfl⟩
      obtain ⟨x,x1,x2⟩:=ade (pa:=pa) (ca:=ca) (ka:=ka) (oa:=oa) (γ:=γ) h hso s.f0 s.f1 (1099511627777 - a.1).toNat b a.1 a.2 (fun _=>Nat.le_refl _) (fun q=>⟨(a2.y q).1.r,(a2.y q).1.n,Int.le_of_eq (hb1 q),fun m _ hx=>by rw [hb1 q] at hx;exact hx⟩) (fun q=>⟨a.1,(a2.y q).1,Int.le_refl _⟩) (fun q m hm hx=>by have:=hm.r;unfold inR at this;have:=hb2 q;omega);have hb3:∀ m,Ex p c core odd m→s.f0≤gHi p c core odd m→b≤m:=fun m hm hx=>by
        obtain ⟨q1,q2⟩:=base m hm hx;rw [hb1 q1];exact q2
      cases x with
      | some j =>
        obtain ⟨y1,y2,y3,y4,y5⟩:=x1;refine ⟨some j,⟨y1,y3,fun m hm hsm=>Classical.byContradiction fun hlt => ?_⟩,fun X0 X1 v hn hs=>Ev2.step (fun k m=>rfl) ?_⟩
        · obtain ⟨u,hu,u1,u2⟩:=hh m hm hsm
          rw [hp] at hu;rcases List.mem_append.1 hu with hu | hu
          · rw [hi m hm ⟨u,hu,u1,u2⟩] at hsm;cases hsm
          · rcases List.mem_cons.1 hu with rfl | hu
            · rw [y5 m hm (hb3 m hm u2) (by omega)] at hsm;cases hsm
            · have:=SL.after (hp ▸ hS) hu
              have:=h.ord m j (by omega) hm.r y1.r hm.n y1.n;omega
        · simp only [fH.l0,fH.l0T,qX,decide_eq_true_eq,c1,c2,if_true,hrd]
          refine Ev2.oo a1 ?_;exact (x2 _ _ _ _ v (fun e=>by cases e) (fun j' e=>by cases e;exact Ev2.right (hs j rfl))).two
      | none =>
        obtain ⟨z,z1,z2⟩:=ih (pre++[s]) (by rw [hp];simp) (fun m hm ⟨u,hu,u1,u2⟩=>by
          rcases List.mem_append.1 hu with hu | hu
          · exact hi m hm ⟨u,hu,u1,u2⟩
          · simp at hu;subst hu
            exact x1 m hm (hb3 m hm u2) u1)
        refine ⟨z,z1,fun X0 X1 v hn hs=>Ev2.step (fun k m=>rfl) ?_⟩;have hz:=z2 X0 X1 v hn hs;rw [← len1] at hz;simp only [fH.l0,fH.l0T,qX,decide_eq_true_eq,c1,c2,if_true,hrd,hw];refine Ev2.oo a1 ?_;exact (x2 _ _ _ _ v (fun _=>⟨hz,hz,hz⟩) (fun j' e=>by cases e)).two
  exact loop set [] rfl (fun m _ ⟨s,hs,_⟩=>by simp at hs)
theorem acQ (ha:SF pa ca ka oa) (h:FOK p c core odd) (i:Int) (hl:(thV pa ca ka oa i).length≤100000) (hb:∀ m,(gT p c core odd m).length≤100000) :
    ∃ r,Ev (fun k=>fG.f k pa ca ka oa p c core odd i) r∧BoS p c core odd (fun m=>meS (gT p c core odd m) (thV pa ca ka oa i)) r:=by
  have hS:=yO ha i;have hso:∀ m,Ex p c core odd m→Ev (fun k=>gZ.f k (gT p c core odd m) (thV pa ca ka oa i)) (meS (gT p c core odd m) (thV pa ca ka oa i)):=fun m _=>l6 _ _ (by have:=hb m;omega);obtain ⟨r1,a1,a2⟩:=aft (pa:=pa) (ca:=ca) (ka:=ka) (oa:=oa) (γ:=Int × Int × Bool) h (so:=fun m=>meS (gT p c core odd m) (thV pa ca ka oa i)) hS hso (abx h.s hS);obtain ⟨r2,b1,b2⟩:=abu (W:=gZ.f) (pa:=pa) (ca:=ca) (ka:=ka) (oa:=oa) (γ:=Int × Int × Bool) h (so:=fun m=>meS (gT p c core odd m) (thV pa ca ka oa i)) hS hso (abx h.s hS);refine ⟨_,?_,abz h a1 b1⟩;unfold fG.f;refine Ev.bind (qj ha i) ?_;simp only [decide_eq_true_eq];refine (a2 _ _ _ (fun e => ?_) (fun j e => ?_)).diag
  · subst e;exact Ev.now _
  · subst e
    refine (b2 _ _ _ (fun e => ?_) (fun j' e => ?_)).diag
    · subst e;exact Ev.now _
    · subst e;exact Ev.now _
theorem zN (ha:SF pa ca ka oa) (h:FOK p c core odd) (i:Int) (hl:(thV pa ca ka oa i).length≤100000) (hb:∀ m,(gT p c core odd m).length≤100000) :
    ∃ r,Ev (fun k=>fH.f k pa ca ka oa p c core odd i) r∧BoS p c core odd (fun m=>inS (gT p c core odd m) (thV pa ca ka oa i)) r:=by
  have hS:=yO ha i;have hso:∀ m,Ex p c core odd m→Ev (fun k=>gQ.f k (gT p c core odd m) (thV pa ca ka oa i)) (inS (gT p c core odd m) (thV pa ca ka oa i)):=fun m _=>mG _ _ (by have:=hb m;omega);obtain ⟨r1,a1,a2⟩:=aek (pa:=pa) (ca:=ca) (ka:=ka) (oa:=oa) (γ:=Int × Int × Bool) h (so:=fun m=>inS (gT p c core odd m) (thV pa ca ka oa i)) hS hso (aby h.s hS);obtain ⟨r2,b1,b2⟩:=abu (W:=gQ.f) (pa:=pa) (ca:=ca) (ka:=ka) (oa:=oa) (γ:=Int × Int × Bool) h (so:=fun m=>inS (gT p c core odd m) (thV pa ca ka oa i)) hS hso (aby h.s hS);refine ⟨_,?_,abz h a1 b1⟩;unfold fH.f;refine Ev.bind (qj ha i) ?_;simp only [decide_eq_true_eq,abA,abB];refine (a2 _ _ _ (fun e => ?_) (fun j e => ?_)).diag
  · subst e;exact Ev.now _
  · subst e
    refine (b2 _ _ _ (fun e => ?_) (fun j' e => ?_)).diag
    · subst e;exact Ev.now _
    · subst e;exact Ev.now _
end Go.Proofs.YtongeknogcboiaaGreat.Q
namespace Go.Proofs.YtongeknogcboiaaGreat.Q
set_option linter.unusedVariables false
set_option linter.unusedSimpArgs false
open Go.RowKit Go.Proofs.YtongeknogcboiaaGreatW.fP Go.Proofs.YtongeknogcboiaaGreatW.iD M R P
section
variable {p c:Int} {core:List (List Sp)} {odd:List Gn}
theorem abC {α:Type} (f:α→Int) (b:Int):∀ {l:List α},(∀ x∈l,f x≤b)→(l.map f).sum≤l.length*b
  | [],_=>by simp
  | x :: r,h=>by
    have:=abC f b (l:=r) (fun y hy=>h y (by simp [hy]));have:=h x (by simp);rw [List.map_cons,List.sum_cons,List.length_cons];rw [Int.natCast_add,Int.add_mul];omega
theorem xA {α:Type} (f:α→Int) (h0:∀ x,0≤f x):∀ {l:List α} {x:α},x∈l→f x≤(l.map f).sum
  | [],x,h=>by cases h
  | y :: r,x,h=>by
    have hs:0≤(r.map f).sum:=su (fun z hz=>by obtain ⟨a,_,rfl⟩:=List.mem_map.1 hz;exact h0 a);rw [List.map_cons,List.sum_cons];rcases List.mem_cons.1 h with rfl | h
    · omega
    · have:=xA f h0 h
      have:=h0 y;omega
theorem ael (h:SF p c core odd):pW core odd≤9223372036854775807:=by
  have h1:=abC (fun l:List Sp=>(l.length:Int)) 2199023255553 (l:=core) (fun l hl=>by have:=SL.len (lo:=0) (h.hcore l hl);omega);have h2:=abC (fun g:Gn=>(g.f1.length:Int)) 2199023255553 (l:=odd) (fun g hg=>by have:=SL.len (lo:=0) (h.hodd g hg);omega);have:=h.hl;have:=h.hlo;unfold pW;omega
theorem afu (h:SF p c core odd) (i:Int):((fs c core odd i).length:Int)≤pW core odd:=by
  have n1:0≤(core.map fun l:List Sp=>(l.length:Int)).sum:=su (fun z hz=>by obtain ⟨a,_,rfl⟩:=List.mem_map.1 hz;omega);have n2:0≤(odd.map fun g:Gn=>(g.f1.length:Int)).sum:=su (fun z hz=>by obtain ⟨a,_,rfl⟩:=List.mem_map.1 hz;omega);unfold pW;unfold fs;cases ho:jI odd i with
  | some l =>
    obtain ⟨g,hg,_,e⟩:=lg ho;have:=xA (fun g:Gn=>(g.f1.length:Int)) (fun _=>by omega) hg;simp only [e] at this;simp only;omega
  | none =>
    by_cases hc:c=0
    · simp only [iM,if_pos hc];simp;omega
    · have:=xA (fun l:List Sp=>(l.length:Int)) (fun _=>by omega) (h.lN i hc)
      simp only at this ⊢;omega
theorem adg (h:SF p c core odd) (i:Int):((gT p c core odd i).length:Int)≤pW core odd:=by
  have:=afu h i;unfold gT;rw [List.length_map];exact this
theorem aem (h:SF p c core odd) (i:Int):((thV p c core odd i).length:Int)≤max 0 (pW core odd):=by
  have:=adg h i;unfold thV;rcases mF h i with ⟨e,e1,e2⟩ | ⟨e,e1⟩
  · rw [e1];simp only;omega
  · rw [e1];simp;omega
theorem aen {lo hi:Int} {l:List Sp} (h:SL lo hi l) (hn:l≠[]):lD l (kZ l)=true:=by
  cases l with
  | nil=>exact absurd rfl hn
  | cons s r=>rw [lU];have:=h.2.1;simp [kZ,this]
structure CvS (pa ca:Int) (ka:List (List Sp)) (oa:List Gn) (p c:Int) (core:List (List Sp)) (odd:List Gn) (i:Int) (r:Int × Bool):Prop where
  y:r.2=true→Ex pa ca ka oa i∧Ex p c core odd r.1∧∀ x,lD (gT pa ca ka oa i) x=true→lD (gT p c core odd r.1) x=true
  n:r.2=false→r.1=0∧(Ex pa ca ka oa i→∀ m,Ex p c core odd m→¬ ∀ x,lD (gT pa ca ka oa i) x=true→lD (gT p c core odd m) x=true)
end
variable [Inhabited WT]
variable {p c pa ca:Int} {core ka:List (List Sp)} {odd oa:List Gn}
theorem afv (h:FOK p c core odd) (t:Int):∃ r,Ev (fun k=>kr.f k p c core odd t) r∧AtS p c core odd t r:=by
  obtain ⟨a,a1,a2⟩:=uy h t;unfold kr.f;cases ha:a.2 with
  | false =>
    refine ⟨(0,false),Ev.bind a1 (Ev.yes (by rw [ha];rfl) (Ev.now _)),⟨(fun e=>by cases e),fun _=>⟨rfl,fun m e => ?_⟩⟩⟩;refine Bool.eq_false_iff.2 fun hm => ?_;exact (a2.n ha).2 m e (yK h.s e hm).2
  | true =>
    obtain ⟨q1,q2,q3⟩:=a2.y ha;have g:=jH h.s a.1;rw [h.s.j4 q1] at g;have hs:=h.s.rF q1;have hv:=afp (gT p c core odd a.1) t hs (by have:=hs.aa3;omega);cases hb:lD (gT p c core odd a.1) t with
    | true =>
      rw [hb] at hv;exact ⟨(a.1,true),Ev.bind a1 (Ev.no (by simp [ha]) (Ev.bind g (Ev.bind hv (Ev.no (by simp) (Ev.now _))))),⟨fun _=>⟨q1,hb⟩,(fun e=>by cases e)⟩⟩
    | false =>
      rw [hb] at hv;refine ⟨(0,false),Ev.bind a1 (Ev.no (by simp [ha]) (Ev.bind g (Ev.bind hv (Ev.yes rfl (Ev.now _))))),⟨(fun e=>by cases e),fun _=>⟨rfl,fun m e => ?_⟩⟩⟩;refine Bool.eq_false_iff.2 fun hm => ?_;obtain ⟨l1,l2⟩:=yK h.s e hm;have:=aed h a2 e l1 l2;rw [this] at hb;rw [hb] at hm;cases hm
theorem sF (m:MF core odd):∃ b,Ev (fun k=>iL.f k p c core odd) b∧(b=true→FOK p c core odd∧GR p c core odd∧core.length≤12∧odd.length≤8∧pW core odd≤60):=by
  have wrong:∀ {P:Prop},false=true→P:=fun e=>by cases e
  unfold iL.f;by_cases hl:(core.length:Int)≤12
  case neg=>exact ⟨false,Ev.bind (a:=false) (Ev.congr (f:=fun _=>some false) (fun k=>by simp [iF.f,hl]) (Ev.now _)) (Ev.now _),wrong⟩
  by_cases hlo:(odd.length:Int)≤8
  case neg=>exact ⟨false,Ev.bind (a:=false) (Ev.congr (f:=fun _=>some false) (fun k=>by simp [iF.f,hl,hlo]) (Ev.now _)) (Ev.now _),wrong⟩
  obtain ⟨n,⟨n1,n2⟩,e,e1,e2,e3,e4⟩:=abk (p:=p) (c:=c) m (by omega) (by omega);have hs:Ev (fun k=>iF.f k p c core odd) (decide (n≤60)):=by
    simp only [iF.f,decide_eq_true_eq,hl,hlo,if_true];exact Ev.bind n1 (Ev.now _)
  by_cases hn:n≤60
  · refine ⟨decide (e=0),Ev.bind hs (Ev.yes (by simpa using hn) (Ev.bind e1 (Ev.now _))),fun he => ?_⟩
    have:=e4.1 (by simpa using he);exact ⟨this.2.fok,this.2,by omega,by omega,by have:=n2 (ael this.2.s);omega⟩
  · exact ⟨false,Ev.bind hs (Ev.no (by simpa using hn) (Ev.now _)),wrong⟩
end Go.Proofs.YtongeknogcboiaaGreat.Q
namespace Go.Proofs.YtongeknogcboiaaGreat.U
set_option linter.unusedVariables false
set_option linter.unusedSimpArgs false
open Go.RowKit Go.Proofs.YtongeknogcboiaaGreatW.fP Go.Proofs.YtongeknogcboiaaGreatW.iD M R P Q
theorem shn {α:Type} {g:Nat→Option α} {r:α} (n:Nat) (h:Ev g r):Ev (fun k=>g (k+n)) r:=let ⟨K,h⟩:=h;⟨K,fun k hk=>h (k+n) (by omega)⟩
theorem shb {α:Type} {g:Nat→Option α} {r:α} (n:Nat) (h:Ev (fun k=>g (k+n)) r):Ev g r:=let ⟨K,h⟩:=h;⟨K+n,fun k hk=>by
  have e:g (k - n+n)=some r:=h (k - n) (by omega);rwa [Nat.sub_add_cancel (by omega)] at e⟩
abbrev KK (γ:Type):=Int→(List Sp)→Int→Int→Int→(List (List Sp))→(List Gn)→Int→Int→(List (List Sp))→(List Gn)→Option γ
section
variable {p c pa ca:Int} {core ka:List (List Sp)} {odd oa:List Gn}
theorem ahm (sa:SF pa ca ka oa) {i:Int} (hn:thV pa ca ka oa i≠[]):(lC pa ca ka oa i).2=0:=by
  rcases mF sa i with ⟨e,e1,e2⟩ | ⟨e,e1⟩
  · rw [e1]
  · exact absurd e1 hn
theorem afw (h:SF p c core odd) {L:List Sp} (hL:SL (-1099511627776) 1099511627776 L) {m:Int} (e:Ex p c core odd m) (q:inS (gT p c core odd m) L=true):L≠[]∧meS (gT p c core odd m) L=true:=by
  have hS:=h.rF e;have hx:=aen hS (lI (p:=p) e.n).1;have hy:=(abw hS hL).1 q _ hx;exact ⟨fun z=>(by rw [z] at hy;cases hy),(xw hS hL).2 ⟨_,hx,hy⟩⟩
theorem afx (h:SF p c core odd) {L:List Sp} (hL:SL (-1099511627776) 1099511627776 L) {m:Int} (e:Ex p c core odd m) (q:meS (gT p c core odd m) L=true):L≠[]∧meS (gT p c core odd m) L=true:=by
  obtain ⟨x,x1,x2⟩:=(xw (h.rF e) hL).1 q;exact ⟨fun z=>(by rw [z] at x2;cases x2),q⟩
end
variable [Inhabited WT]
variable {p c pa ca:Int} {core ka:List (List Sp)} {odd oa:List Gn}
theorem afy {γ:Type} {v:γ} (h:FOK p c core odd) (gb:∀ m,(gT p c core odd m).length≤100000) (i e high:Int) (L:List Sp) (hl:L.length≤100000) (hr:inR high) (hz:∀ m,Ex p c core odd m→high<m→inS (gT p c core odd m) L=false) (X0:KK γ) (X1:Nat→KK γ)
    (hY:Ev (fun k=>X1 k i L e pa ca ka oa p c core odd) v):Ev (fun k=>fE.l2 X0 (X1 k) k i L e high pa ca ka oa p c core odd) v:=by
  unfold fE.l2;unfold inR at hr;simp only [decide_eq_true_eq];obtain ⟨q,q1,q2⟩:=abo h high (by omega);refine Ev.bind q1 ?_;by_cases b:q.2=true
  · obtain ⟨z1,z2,z3⟩:=q2.1 b
    refine Ev.yes b (Ev.bind (jH h.s q.1) ?_);rw [h.s.j4 z1];have hne:=(lI (p:=p) z1.n).1;have w:Ev (fun k=>gQ.f k (gT p c core odd q.1) L) (inS (gT p c core odd q.1) L):=mG _ _ (by have:=gb q.1;omega);rw [hz q.1 z1 z2] at w;exact Ev.no (by simp) (Ev.no (by simpa using hne) (Ev.bind w (Ev.no (by simp) hY)))
  · exact Ev.no b hY
theorem afz {γ:Type} {v:γ} (h:FOK p c core odd) (gb:∀ m,(gT p c core odd m).length≤100000) (i e low high:Int) (L:List Sp) (hl:L.length≤100000) (hr0:inR low) (hr:inR high) (hz0:∀ m,Ex p c core odd m→m<low→inS (gT p c core odd m) L=false) (hz:∀ m,Ex p c core odd m→high<m→inS (gT p c core odd m) L=false) (X0:KK γ) (X1:Nat→KK γ)
    (hY:Ev (fun k=>X1 k i L e pa ca ka oa p c core odd) v):Ev (fun k=>fE.l1 X0 (X1 k) k i L e low high pa ca ka oa p c core odd) v:=by
  unfold fE.l1;have hr0':=hr0;unfold inR at hr0';simp only [decide_eq_true_eq];have nxt:=afy (pa:=pa) (ca:=ca) (ka:=ka) (oa:=oa) h gb i e high L hl hr hz X0 X1 hY;obtain ⟨q,q1,q2⟩:=abp h low (by omega);refine Ev.bind q1 ?_;by_cases b:q.2=true
  · obtain ⟨z1,z2,z3⟩:=q2.1 b
    refine Ev.yes b (Ev.bind (jH h.s q.1) ?_);rw [h.s.j4 z1];have hne:=(lI (p:=p) z1.n).1;have w:Ev (fun k=>gQ.f k (gT p c core odd q.1) L) (inS (gT p c core odd q.1) L):=mG _ _ (by have:=gb q.1;omega);rw [hz0 q.1 z1 z2] at w;exact Ev.no (by simp) (Ev.no (by simpa using hne) (Ev.bind w (Ev.no (by simp) nxt)))
  · exact Ev.no b nxt
theorem afA {γ:Type} {v:γ} (sa:SF pa ca ka oa) (h:FOK p c core odd) (gb:∀ m,(gT p c core odd m).length≤100000) (i:Int) (hl:(thV pa ca ka oa i).length≤100000) (X0:KK γ) (X1:Nat→KK γ)
    (hY:Ev (fun k=>X1 k i (thV pa ca ka oa i) (lC pa ca ka oa i).2 pa ca ka oa p c core odd) v):Ev (fun k=>fE.l0 X0 (X1 k) k i (thV pa ca ka oa i) (lC pa ca ka oa i).2 pa ca ka oa p c core odd) v:=by
  unfold fE.l0;simp only [decide_eq_true_eq];have hL:=yO sa i;obtain ⟨r,r1,r2⟩:=zN sa h i hl gb;refine Ev.bind r1 ?_;cases hr:r.2.2 with
  | false =>
    obtain ⟨z1,z2,z3⟩:=r2.n hr;refine Ev.yes rfl (Ev.no (by simp [z1]) (Ev.no (by simp [z2]) ?_));by_cases e0:(lC pa ca ka oa i).2=0
    case neg=>exact Ev.no e0 hY
    refine Ev.yes e0 ?_;by_cases hlen:((thV pa ca ka oa i).length:Int)>0
    case neg=>exact Ev.no hlen hY
    refine Ev.yes hlen (Ev.yes hlen ?_);obtain ⟨x,x1,x2⟩:=afv h (gS (thV pa ca ka oa i) 0).f0;refine Ev.bind x1 ?_;by_cases b:x.2=true
    · obtain ⟨w1,_⟩:=x2.y b
      refine Ev.yes b (Ev.bind (jH h.s x.1) ?_);rw [h.s.j4 w1];have w:Ev (fun k=>gQ.f k (gT p c core odd x.1) (thV pa ca ka oa i)) (inS (gT p c core odd x.1) (thV pa ca ka oa i)):=mG _ _ (by have:=gb x.1;omega);have w0:inS (gT p c core odd x.1) (thV pa ca ka oa i)=false:=z3 x.1 w1;rw [w0] at w;exact Ev.no (by simp) (Ev.bind w (Ev.no (by simp) hY))
    · exact Ev.no b hY
  | true =>
    obtain ⟨⟨x1,x2⟩,⟨y1,y2⟩,z⟩:=r2.y hr;have x2':inS (gT p c core odd r.1) (thV pa ca ka oa i)=true:=x2;have y2':inS (gT p c core odd r.2.1) (thV pa ca ka oa i)=true:=y2;obtain ⟨n1,n2⟩:=afw h.s hL x1 x2';obtain ⟨_,n3⟩:=afw h.s hL y1 y2';have e0:=ahm sa n1;have zz:=z _ x1 x2;refine Ev.no (by simp) (Ev.bind (jH h.s r.1) (Ev.bind (jH h.s r.2.1) ?_));rw [h.s.j4 x1,h.s.j4 y1];have w1:Ev (fun k=>gQ.f k (gT p c core odd r.1) (thV pa ca ka oa i)) (inS (gT p c core odd r.1) (thV pa ca ka oa i)):=mG _ _ (by have:=gb r.1;omega);have w2:Ev (fun k=>gQ.f k (gT p c core odd r.2.1) (thV pa ca ka oa i)) (inS (gT p c core odd r.2.1) (thV pa ca ka oa i)):=mG _ _ (by have:=gb r.2.1;omega);have m1:Ev (fun k=>gZ.f k (gT p c core odd r.1) (thV pa ca ka oa i)) (meS (gT p c core odd r.1) (thV pa ca ka oa i)):=l6 _ _ (by have:=gb r.1;omega);have m2:Ev (fun k=>gZ.f k (gT p c core odd r.2.1) (thV pa ca ka oa i)) (meS (gT p c core odd r.2.1) (thV pa ca ka oa i)):=l6 _ _ (by have:=gb r.2.1;omega);rw [x2'] at w1;rw [y2'] at w2;rw [n2] at m1;rw [n3] at m2;refine Ev.no (by simp [e0]) (Ev.no (by simp) (Ev.no (by simp) (Ev.no (by omega) (Ev.bind w1 (Ev.no (by simp) (Ev.bind w2 (Ev.no (by simp) (Ev.bind m1 (Ev.no (by simp) (Ev.bind m2 (Ev.no (by simp) ?_)))))))))));refine afz h gb i _ r.1 r.2.1 _ hl x1.r y1.r (fun m hm hlt => ?_) (fun m hm hlt => ?_) X0 X1 hY
    · cases q:inS (gT p c core odd m) (thV pa ca ka oa i) with
      | false=>rfl
      | true=>have:=z m hm q;omega
    · cases q:inS (gT p c core odd m) (thV pa ca ka oa i) with
      | false=>rfl
      | true=>have:=z m hm q;omega
theorem afB {γ:Type} {v:γ} (h:FOK p c core odd) (gb:∀ m,(gT p c core odd m).length≤100000) (i e high:Int) (L:List Sp) (hl:L.length≤100000) (hr:inR high) (hz:∀ m,Ex p c core odd m→high<m→meS (gT p c core odd m) L=false) (X0:KK γ) (X1:Nat→KK γ)
    (hY:Ev (fun k=>X1 k i L e pa ca ka oa p c core odd) v):Ev (fun k=>fE.l5 X0 (X1 k) k i L e high pa ca ka oa p c core odd) v:=by
  unfold fE.l5;unfold inR at hr;simp only [decide_eq_true_eq];obtain ⟨q,q1,q2⟩:=abo h high (by omega);refine Ev.bind q1 ?_;by_cases b:q.2=true
  · obtain ⟨z1,z2,z3⟩:=q2.1 b
    refine Ev.yes b (Ev.bind (jH h.s q.1) ?_);rw [h.s.j4 z1];have hne:=(lI (p:=p) z1.n).1;have w:Ev (fun k=>gZ.f k (gT p c core odd q.1) L) (meS (gT p c core odd q.1) L):=l6 _ _ (by have:=gb q.1;omega);rw [hz q.1 z1 z2] at w;exact Ev.no (by simp) (Ev.no (by simpa using hne) (Ev.bind w (Ev.no (by simp) hY)))
  · exact Ev.no b hY
theorem afC {γ:Type} {v:γ} (h:FOK p c core odd) (gb:∀ m,(gT p c core odd m).length≤100000) (i e low high:Int) (L:List Sp) (hl:L.length≤100000) (hr0:inR low) (hr:inR high) (hz0:∀ m,Ex p c core odd m→m<low→meS (gT p c core odd m) L=false) (hz:∀ m,Ex p c core odd m→high<m→meS (gT p c core odd m) L=false) (X0:KK γ) (X1:Nat→KK γ)
    (hY:Ev (fun k=>X1 k i L e pa ca ka oa p c core odd) v):Ev (fun k=>fE.l4 X0 (X1 k) k i L e low high pa ca ka oa p c core odd) v:=by
  unfold fE.l4;have hr0':=hr0;unfold inR at hr0';simp only [decide_eq_true_eq];have nxt:=afB (pa:=pa) (ca:=ca) (ka:=ka) (oa:=oa) h gb i e high L hl hr hz X0 X1 hY;obtain ⟨q,q1,q2⟩:=abp h low (by omega);refine Ev.bind q1 ?_;by_cases b:q.2=true
  · obtain ⟨z1,z2,z3⟩:=q2.1 b
    refine Ev.yes b (Ev.bind (jH h.s q.1) ?_);rw [h.s.j4 z1];have hne:=(lI (p:=p) z1.n).1;have w:Ev (fun k=>gZ.f k (gT p c core odd q.1) L) (meS (gT p c core odd q.1) L):=l6 _ _ (by have:=gb q.1;omega);rw [hz0 q.1 z1 z2] at w;exact Ev.no (by simp) (Ev.no (by simpa using hne) (Ev.bind w (Ev.no (by simp) nxt)))
  · exact Ev.no b nxt
theorem afD {γ:Type} {v:γ} (sa:SF pa ca ka oa) (h:FOK p c core odd) (gb:∀ m,(gT p c core odd m).length≤100000) (i:Int) (hl:(thV pa ca ka oa i).length≤100000) (X0:KK γ) (X1:Nat→KK γ)
    (hY:Ev (fun k=>X1 k i (thV pa ca ka oa i) (lC pa ca ka oa i).2 pa ca ka oa p c core odd) v):Ev (fun k=>fE.l3 X0 (X1 k) k i (thV pa ca ka oa i) (lC pa ca ka oa i).2 pa ca ka oa p c core odd) v:=by
  unfold fE.l3;simp only [decide_eq_true_eq];have hL:=yO sa i;obtain ⟨r,r1,r2⟩:=acQ sa h i hl gb;refine Ev.bind r1 ?_;cases hr:r.2.2 with
  | false =>
    obtain ⟨z1,z2,z3⟩:=r2.n hr;refine Ev.yes rfl (Ev.no (by simp [z1]) (Ev.no (by simp [z2]) ?_));by_cases e0:(lC pa ca ka oa i).2=0
    case neg=>exact Ev.no e0 hY
    refine Ev.yes e0 ?_;by_cases hlen:((thV pa ca ka oa i).length:Int)>0
    case neg=>exact Ev.no hlen hY
    refine Ev.yes hlen (Ev.yes hlen ?_);obtain ⟨x,x1,x2⟩:=afv h (gS (thV pa ca ka oa i) 0).f0;refine Ev.bind x1 ?_;by_cases b:x.2=true
    · obtain ⟨w1,_⟩:=x2.y b
      refine Ev.yes b (Ev.bind (jH h.s x.1) ?_);rw [h.s.j4 w1];have w:Ev (fun k=>gZ.f k (gT p c core odd x.1) (thV pa ca ka oa i)) (meS (gT p c core odd x.1) (thV pa ca ka oa i)):=l6 _ _ (by have:=gb x.1;omega);have w0:meS (gT p c core odd x.1) (thV pa ca ka oa i)=false:=z3 x.1 w1;rw [w0] at w;exact Ev.no (by simp) (Ev.bind w (Ev.no (by simp) hY))
    · exact Ev.no b hY
  | true =>
    obtain ⟨⟨x1,x2⟩,⟨y1,y2⟩,z⟩:=r2.y hr;have x2':meS (gT p c core odd r.1) (thV pa ca ka oa i)=true:=x2;have y2':meS (gT p c core odd r.2.1) (thV pa ca ka oa i)=true:=y2;obtain ⟨n1,n2⟩:=afx h.s hL x1 x2';obtain ⟨_,n3⟩:=afx h.s hL y1 y2';have e0:=ahm sa n1;have zz:=z _ x1 x2;refine Ev.no (by simp) (Ev.bind (jH h.s r.1) (Ev.bind (jH h.s r.2.1) ?_));rw [h.s.j4 x1,h.s.j4 y1];have w1:Ev (fun k=>gZ.f k (gT p c core odd r.1) (thV pa ca ka oa i)) (meS (gT p c core odd r.1) (thV pa ca ka oa i)):=l6 _ _ (by have:=gb r.1;omega);have w2:Ev (fun k=>gZ.f k (gT p c core odd r.2.1) (thV pa ca ka oa i)) (meS (gT p c core odd r.2.1) (thV pa ca ka oa i)):=l6 _ _ (by have:=gb r.2.1;omega);have m1:Ev (fun k=>gZ.f k (gT p c core odd r.1) (thV pa ca ka oa i)) (meS (gT p c core odd r.1) (thV pa ca ka oa i)):=l6 _ _ (by have:=gb r.1;omega);have m2:Ev (fun k=>gZ.f k (gT p c core odd r.2.1) (thV pa ca ka oa i)) (meS (gT p c core odd r.2.1) (thV pa ca ka oa i)):=l6 _ _ (by have:=gb r.2.1;omega);rw [x2'] at w1;rw [y2'] at w2;rw [n2] at m1;rw [n3] at m2;refine Ev.no (by simp [e0]) (Ev.no (by simp) (Ev.no (by simp) (Ev.no (by omega) (Ev.bind w1 (Ev.no (by simp) (Ev.bind w2 (Ev.no (by simp) (Ev.bind m1 (Ev.no (by simp) (Ev.bind m2 (Ev.no (by simp) ?_)))))))))));refine afC h gb i _ r.1 r.2.1 _ hl x1.r y1.r (fun m hm hlt => ?_) (fun m hm hlt => ?_) X0 X1 hY
    · cases q:meS (gT p c core odd m) (thV pa ca ka oa i) with
      | false=>rfl
      | true=>have:=z m hm q;omega
    · cases q:meS (gT p c core odd m) (thV pa ca ka oa i) with
      | false=>rfl
      | true=>have:=z m hm q;omega
theorem zO (pa ca:Int) (ka:List (List Sp)) (oa:List Gn) (fa:aaX pa ca ka oa) (p c:Int) (core:List (List Sp)) (odd:List Gn) (ff:aaX p c core odd) (i:Int) (hi:fits i):∃ k,fE.f k pa ca ka oa p c core odd i=some true:=by
  refine Ev.rounds ?_;refine shb 3 ?_;simp only [fE.f];obtain ⟨a,a1,a2⟩:=sF (p:=pa) (c:=ca) fa.mf;refine Ev.bind (shn 3 a1) ?_;have aw:Ev (fun k=>fZ.f (k+3)) true:=shn 3 sD;cases a with
  | false=>exact Ev.yes rfl (Ev.bind aw (Ev.now _))
  | true =>
  refine Ev.no (by simp) ?_;obtain ⟨b,b1,b2⟩:=sF (p:=p) (c:=c) ff.mf;refine Ev.bind (shn 3 b1) ?_;cases b with
  | false=>exact Ev.yes rfl (Ev.bind aw (Ev.now _))
  | true =>
  refine Ev.no (by simp) ?_;obtain ⟨ha,_,_,_,za⟩:=a2 rfl;obtain ⟨h,_,_,_,zb⟩:=b2 rfl;have la:(thV pa ca ka oa i).length≤100000:=by have:=aem ha.s i;omega
  have gb:∀ m,(gT p c core odd m).length≤100000:=fun m=>by have:=adg h.s m;omega
  refine Ev.bind (shn 3 (jH ha.s i)) ?_;have t3:=afD ha.s h gb i la (fun _ _ _ _ _ _ _ _ _ _ _=>some false) (fun k _ _ _ _ _ _ _ _ _ _ _=>(fZ.f (k+2)).bind fun t=>some t) (Ev.bind (shn 2 sD) (Ev.now _));refine shn 2 (afA (v:=true) ha.s h gb i la (fun _ _ _ _ _ _ _ _ _ _ _=>some false) (fun k a0 a1 a2 a3 a4 a5 a6 a7 a8 a9 aa=>fE.l3 (fun _ _ _ _ _ _ _ _ _ _ _=>some false) (fun _ _ _ _ _ _ _ _ _ _ _=>(fZ.f (k+1)).bind fun t=>some t) (k - 1) a0 a1 a2 a3 a4 a5 a6 a7 a8 a9 aa) ?_);exact Ev.step (fun k=>rfl) t3
end Go.Proofs.YtongeknogcboiaaGreat.U
namespace Go.Proofs.YtongeknogcboiaaGreat.sG
open Go.ChangeShapes Go.WideShapes Go.ChangeAt Go.RowKit
open Go.ChangeMaps (open_string shut_string)
set_option linter.unusedVariables false
theorem own:ownKnob Tryz.prog.godebug=none:=by kernel_rfl
theorem laidOut:laidOutB Tryz.prog=true:=by kernel_rfl
set_option maxRecDepth 100000 in
theorem lifted (os:Os) (started:os.Started) (H:Type) (enc:TypeId × Value→H) :
    ReturnsInHanded {} Tryz.checked os 6 .any (Rows.convWithinSpec.pre6 enc Tryz.prog Tryz.f6 Rows.convWithinRow.domain false) (Rows.convWithinSpec.post enc Tryz.prog Tryz.f6 false true false false):=by
  refine returnsInHanded_of_change_sized (C:=Tryz.checked) own started (by kernel_rfl) Tryz.func6
    (ChangeSpec.witness6 (enc:=enc) (C:=Tryz.checked) false ⟨#[],#[.agg #[.int .i64 0,.int .i64 0,.slice none 0 0,.slice none 0 0],.agg #[.int .i64 0,.int .i64 0,.slice none 0 0,.slice none 0 0],.int .i64 0],[]⟩ 8 (by kernel_rfl) (by kernel_rfl) (by kernel_rfl) (by kernel_rfl)) ?_
  intro W base args ds gs before hval0 hW hcnd hsz0 _;have hval:∀ (j:Nat) t v,Tryz.f6.params[j]? = some t→args[j]? = some v→Value.okWide Tryz.prog W .any base t v:=hval0;have hW':=hW;obtain ⟨p,q,am,hV,rfl,hfz,hnd⟩:=hW;have hA:DataW.TrodAll enc Tryz.prog W 0 (fun _=>true) true Tryz.f6.params.toList args.toList ds p:=am;rw [Tryz.params6] at hA hval;obtain ⟨v0,aE,d0,ds0,p0,q0,hargs,rfl,rfl,h0,r0⟩:=trodAll_cons hA;obtain ⟨v1,vs1,d1,ds1,p1,q1,rfl,rfl,rfl,h1,r1⟩:=trodAll_cons r0;obtain ⟨v2,vs2,d2,aF,p2,q2,rfl,rfl,rfl,h2,r2⟩:=trodAll_cons r1;obtain ⟨rfl,rfl,rfl⟩:=trodAll_nil r2;obtain rfl:args=#[v0,v1,v2]:=by cases args;simp_all
  obtain ⟨rfl,rfl⟩:=trodVars_none hV;have k0:=h0;have ap:∀ x∈p0,x.block<W.heap.size:=by obtain ⟨m,hm⟩:=k0;exact DataW.trod_lt m _ _ _ hm
  obtain ⟨aa,ab,aG,aH,ac,aI,aJ,af,rfl,aq,au,aw,ax,ay⟩:=P.vO (hval 0 25 v0 rfl rfl) h0;have k1:=h1;have az:∀ x∈p1,x.block<W.heap.size:=by obtain ⟨m,hm⟩:=k1;exact DataW.trod_lt m _ _ _ hm
  obtain ⟨ah,ai,aK,aL,aj,aM,aN,ak,rfl,aA,fx1,aB,aC,aD⟩:=P.vO (hval 1 25 v1 rfl rfl) h1;obtain ⟨a2,rfl,rfl,rfl,w2⟩:=open_int Tryz.underlying3 (hval 2 3 v2 rfl rfl) h2;clear am hval0 hsz0;obtain ⟨kk,hP⟩:=U.zO aa ab ac af ay ah ai aj ak aD a2 w2;refine (M.aaU (R.fE.ok kk) (W:=W) (a:=((⟨aa,ab,ac,af⟩:P.S25),(⟨ah,ai,aj,ak⟩:P.S25),a2,())) (vs:=[.agg #[.int .i64 aa,.int .i64 ab,.slice _ ac.length _,.slice _ af.length _],.agg #[.int .i64 ah,.int .i64 ai,.slice _ aj.length _,.slice _ ak.length _],.int .i64 a2]) ⟨⟨_,M.fm0 _ _ aq au aw ax,rfl⟩,⟨⟨_,M.fm0 _ _ aA fx1 aB aC,rfl⟩,⟨⟨_,rfl,rfl⟩,trivial⟩⟩⟩ hP).mono fun e W' ⟨he,ao⟩ => ?_;have al:=ao;subst he;exact ⟨_,rfl,_,_,_,[],_,[],hW',trodAll_mk1 (shut_bool Tryz.underlying4 _),(trodAll_cons_mk (Below.trod laidOut (by kernel_rfl) (of_decide_eq_true (by kernel_rfl)) k0 al ap) (trodAll_cons_mk (Below.trod laidOut (by kernel_rfl) (of_decide_eq_true (by kernel_rfl)) k1 al az) (trodAll_cons_mk (shut_int Tryz.underlying3 w2) trodAll_mk0))),rfl,al.frame _,fun h=>by cases h⟩
theorem over:Rows.convWithinRow.holds Tryz.pinned (OpenSpec.ofChange Rows.convWithinSpec) :=
  OpenClaim.holds_of_wide 6 Tryz.f6 rfl rfl rfl rfl rfl rfl rfl ⟨rfl,rfl,rfl,rfl,rfl⟩ rfl rfl rfl rfl rfl (by kernel_rfl) Tryz.func6 (by kernel_rfl)
    (of_decide_eq_true (by kernel_rfl)) (by unfold Func.isWrapper;first | (rw [if_pos (by decide +kernel)];kernel_rfl) | (rw [if_neg (by decide +kernel)];exact ⟨rfl,rfl⟩))
    (fun os started H enc _=>lifted os started H enc)
theorem proved:Rows.ConvWithinSaid:=over
#print axioms proved
end Go.Proofs.YtongeknogcboiaaGreat.sG
namespace Go.Proofs.YtongeknogcboiaaGreat
theorem convWithin_holds:Rows.ConvWithinSaid:=sG.proved
end Go.Proofs.YtongeknogcboiaaGreat

/- The law SetsTells: it holds at every input that its row reads. No condition of its own. -/
import Derived.Test.YtcomnjodjijcmaaGreatYE22
import Derived.Test.YtcomnjodjijcmaaGreatYE21
import Derived.Test.YtcomnjodjijcmaaGreatRows
import Derived.Test.YtcomnjodjijcmaaGreatYE17
import Derived.Test.YtcomnjodjijcmaaGreatYE18
import Derived.WalkKit
import Derived.ProofKit
import Derived.OpenShut
import Derived.ShutString
import Derived.ChangeOld
import Derived.Below
import Derived.SizedLaws
namespace Go.Proofs.YtcomnjodjijcmaaGreat.Q
set_option linter.unusedVariables false
set_option linter.unusedSimpArgs false
open Go.RowKit Go.Proofs.YtcomnjodjijcmaaGreatW.dz Go.Proofs.YtcomnjodjijcmaaGreatW.eD M R P
section
variable {p c:Int} {core:List (List Sp)} {odd:List Gn}
theorem aia (h:SF p c core odd) (i:Int):SL (-1099511627776) 1099511627776 (jm p c core odd i).1:=by
  unfold jm;split
  · split
    · trivial
    · unfold lU
      split
      · exact (h.sS i).moved (by assumption)
      · trivial
  · trivial
theorem aiR {i:Int} (hf:fs c core odd i≠[]) (h0:(jm p c core odd i).2=0):(jm p c core odd i).1≠[]:=by
  unfold jm at h0 ⊢;split at h0
  · unfold lU at h0
    split at h0
    · rw [if_pos (by assumption),if_neg hf]
      unfold lU;rw [if_pos (by assumption)];simp [hf]
    · simp at h0
  · simp at h0
theorem ajf {l:List Sp} (hn:l≠[]) (hl:l.length≤4611686018427387903):∃ s∈l,s.f1=kT l:=by
  obtain ⟨_,_,e⟩:=afJ l hn hl;have h0:=List.length_pos_iff.2 hn;have:gS l ((l.length:Int) - 1)=l[l.length - 1]:=by
    rw [show (l.length:Int) - 1=((l.length - 1:Nat):Int) by omega];exact abZ l _ (by omega)
  exact ⟨l[l.length - 1],List.getElem_mem _,by rw [← this];exact e⟩
theorem ajg {l:List Sp} (hn:l≠[]):∃ s∈l,s.f0=kJ l:=by
  obtain ⟨h0,e⟩:=afI l hn;have:gS l 0=l[0]:=abZ l 0 h0;exact ⟨l[0],List.getElem_mem _,by rw [← this];exact e⟩
theorem aip {a b:List Sp} (ha:SL (-1099511627776) 1099511627776 a) (hb:SL (-1099511627776) 1099511627776 b):jc a b=true↔∀ s∈a,∀ t∈b,s.f1<t.f0:=by
  rw [qA];constructor
  · intro h s hs t ht
    have:=h (fun e=>by rw [e] at hs;simp at hs) (fun e=>by rw [e] at ht;simp at ht);have:=ha.between hs;have:=hb.between ht;omega
  · intro h na nb
    obtain ⟨s,hs,e1⟩:=ajf na ha.vE;obtain ⟨t,ht,e2⟩:=ajg nb;have:=h s hs t ht;omega
def aiH (p c:Int) (core:List (List Sp)) (odd:List Gn):List Sp→List Int→Bool
  | _,[]=>true
  | last,i :: r=>decide ((jm p c core odd i).2=0)&&(jc last (jm p c core odd i).1&&aiH p c core odd (if (jm p c core odd i).1=[] then last else (jm p c core odd i).1) r)
structure Dnw (c:Int) (core:List (List Sp)) (odd:List Gn) (i:Int) (r:Int × Bool):Prop where
  y:r.2=true→r.1<i∧inR r.1∧fs c core odd r.1≠[]∧gap c core odd r.1 i
  u:∀ k,k<i→inR k→fs c core odd k≠[]→gap c core odd k i→r.2=true∧k=r.1
structure Upw (c:Int) (core:List (List Sp)) (odd:List Gn) (i:Int) (r:Int × Bool):Prop where
  y:r.2=true→i<r.1∧inR r.1∧fs c core odd r.1≠[]∧gap c core odd i r.1
  u:∀ k,i<k→inR k→fs c core odd k≠[]→gap c core odd i k→r.2=true∧k=r.1
theorem ajv {i:Int} {r:Int × Bool} (hi:inR i) (n:Nrs c core odd 1 (i+1) r):Upw c core odd i r:=by
  have hi':=hi;unfold inR at hi';refine ⟨fun e => ?_,fun k h1 h2 h3 h4 => ?_⟩
  · obtain ⟨a1,a2,a3,a4⟩:=n.y e
    exact ⟨by omega,a2,a3,fun m h1 h2=>a4 m (by omega) (by omega)⟩
  · cases e:r.2 with
    | false=>exact absurd ((n.n e).2 k (by omega) h2) h3
    | true =>
      obtain ⟨a1,a2,a3,a4⟩:=n.y e;refine ⟨rfl,?_⟩;rcases Int.lt_trichotomy k r.1 with g | g | g
      · exact absurd (a4 k (by omega) (by omega)) h3
      · exact g
      · exact absurd (h4 r.1 (by omega) g) a3
theorem ajw {i:Int} {r:Int × Bool} (hi:inR i) (n:Nrs c core odd (-1) (i - 1) r):Dnw c core odd i r:=by
  have hi':=hi;unfold inR at hi';refine ⟨fun e => ?_,fun k h1 h2 h3 h4 => ?_⟩
  · obtain ⟨a1,a2,a3,a4⟩:=n.y e
    exact ⟨by omega,a2,a3,fun m h1 h2=>a4 m (by omega) (by omega)⟩
  · cases e:r.2 with
    | false=>exact absurd ((n.n e).2 k (by omega) h2) h3
    | true =>
      obtain ⟨a1,a2,a3,a4⟩:=n.y e;refine ⟨rfl,?_⟩;rcases Int.lt_trichotomy k r.1 with g | g | g
      · exact absurd (h4 r.1 g (by omega)) a3
      · exact g
      · exact absurd (a4 k (by omega) (by omega)) h3
theorem ajh {i:Int} (h:¬ i<1099511627776):Upw c core odd i (0,false):=⟨fun e=>(by cases e),fun k h1 h2 h3 h4=>by unfold inR at h2;omega⟩
theorem aji {i:Int} (h:¬ -1099511627776<i):Dnw c core odd i (0,false):=⟨fun e=>(by cases e),fun k h1 h2 h3 h4=>by unfold inR at h2;omega⟩
theorem ajj (h:SF p c core odd) {i:Int} {lo up:Int × Bool} (dn:Dnw c core odd i lo) (u:Upw c core odd i up):aiH p c core odd [] ((if lo.2 then [lo.1] else [])++i :: (if up.2 then [up.1] else []))=true↔Bes p c core odd i:=by
  have an:∀ b,jc [] b=true:=fun b=>by simp [jc]
  have tail:∀ last:List Sp,(SL (-1099511627776) 1099511627776 last)→(aiH p c core odd last (i :: (if up.2 then [up.1] else []))=true↔(jm p c core odd i).2=0∧jc last (jm p c core odd i).1=true∧(up.2=true→(jm p c core odd up.1).2=0∧jc (jm p c core odd i).1 (jm p c core odd up.1).1=true∧jc last (jm p c core odd up.1).1=true)):=fun last hlast=>by
    have hi:=aia h i;cases e:up.2 with
    | false =>
      simp only [aiH,Bool.and_eq_true,decide_eq_true_eq,Bool.false_eq_true,if_false];exact ⟨fun ⟨a,b,_⟩=>⟨a,b,fun e=>(by cases e)⟩,fun ⟨a,b,_⟩=>⟨a,b,trivial⟩⟩
    | true =>
      have hu:=aia h up.1;simp only [aiH,Bool.and_eq_true,decide_eq_true_eq,if_true];constructor
      · rintro ⟨a,b,c1,d1,_⟩
        refine ⟨a,b,fun _=>⟨c1,?_⟩⟩;by_cases z:(jm p c core odd i).1=[]
        · rw [if_pos z] at d1
          rw [z];exact ⟨an _,d1⟩
        · rw [if_neg z] at d1
          refine ⟨d1,?_⟩;rw [qA] at b d1 ⊢;intro n1 n2;have:=b n1 z;have:=d1 z n2;have:=hi.ends z;omega
      · rintro ⟨a,b,c1⟩
        obtain ⟨c2,c3,c4⟩:=c1 trivial;refine ⟨a,b,c2,?_,trivial⟩;split
        · exact c4
        · exact c3
  cases el:lo.2 with
  | false =>
    have nl:∀ k,k<i→inR k→fs c core odd k≠[]→gap c core odd k i→False:=fun k a b c' d=>by
      have:=(dn.u k a b c' d).1;rw [el] at this;cases this
    simp only [Bool.false_eq_true,if_false,List.nil_append];rw [tail [] trivial];constructor
    · rintro ⟨a,_,b⟩
      exact ⟨a,fun k k1 k2 k3 k4=>by
        obtain ⟨e,rfl⟩:=u.u k k1 k2 k3 k4;exact ⟨(b e).1,(b e).2.1⟩,fun k k1 k2 k3 k4=>(nl k k1 k2 k3 k4).elim,fun j k a b c' d e f g q=>(nl j a c' e g).elim⟩
    · intro b
      refine ⟨b.he,an _,fun e => ?_⟩;obtain ⟨u1,u2,u3,u4⟩:=u.y e;exact ⟨(b.up _ u1 u2 u3 u4).1,(b.up _ u1 u2 u3 u4).2,an _⟩
  | true =>
    obtain ⟨n1,n2,n3,n4⟩:=dn.y el;simp only [if_true,List.cons_append,List.nil_append];have hlo:=aia h lo.1;have first:aiH p c core odd [] (lo.1 :: i :: (if up.2 then [up.1] else []))=true↔(jm p c core odd lo.1).2=0∧aiH p c core odd (jm p c core odd lo.1).1 (i :: (if up.2 then [up.1] else []))=true:=by
      rw [aiH.eq_2 p c core odd [] lo.1];simp only [Bool.and_eq_true,decide_eq_true_eq,an,true_and];constructor
      · rintro ⟨a,b⟩
        rw [if_neg (aiR n3 a)] at b;exact ⟨a,b⟩
      · rintro ⟨a,b⟩
        rw [if_neg (aiR n3 a)];exact ⟨a,b⟩
    rw [first,tail _ hlo];constructor
    · rintro ⟨a,b,c1,d⟩
      exact ⟨b,fun k k1 k2 k3 k4=>by
        obtain ⟨e,rfl⟩:=u.u k k1 k2 k3 k4;exact ⟨(d e).1,(d e).2.1⟩,fun k k1 k2 k3 k4=>by
        obtain ⟨e,rfl⟩:=dn.u k k1 k2 k3 k4;exact ⟨a,c1⟩,fun j k j1 k1 j2 k2 j3 k3 j4 k4=>by
        obtain ⟨e,rfl⟩:=u.u k k1 k2 k3 k4;obtain ⟨_,rfl⟩:=dn.u j j1 j2 j3 j4;exact (d e).2.2⟩
    · intro b
      refine ⟨(b.dn _ n1 n2 n3 n4).1,b.he,(b.dn _ n1 n2 n3 n4).2,fun e => ?_⟩;obtain ⟨u1,u2,u3,u4⟩:=u.y e;exact ⟨(b.up _ u1 u2 u3 u4).1,(b.up _ u1 u2 u3 u4).2,b.ov _ _ n1 u1 n2 u2 n3 u3 n4 u4⟩
end
variable [Inhabited WT]
variable {p c:Int} {core:List (List Sp)} {odd:List Gn}
theorem ahZ {a b:List Sp} (ha:SL (-1099511627776) 1099511627776 a) (hb:SL (-1099511627776) 1099511627776 b):Ev (fun k=>aa2.f k a b) (jc a b):=by
  have la:=ha.vE;have lb:=hb.vE;have inner:∀ (i:Nat) (hi:i<a.length) (d m:Nat),b.length - m=d→m≤b.length→(∀ (X1:Nat→Option Bool) (v:Bool),(∀ j (hj:j<b.length),m≤j→a[i].f1<b[j].f0)→Ev X1 v→Ev (fun k=>aa2.l1 (some false) (X1 k) a b (i:Int) k (m:Int)) v)∧(∀ (X1:Nat→Option Bool),(∃ j,∃ hj:j<b.length,m≤j∧¬ a[i].f1<b[j].f0)→Ev (fun k=>aa2.l1 (some false) (X1 k) a b (i:Int) k (m:Int)) false):=by
    intro i hi d;have i1:(i:Int)<(a.length:Int):=by omega
    have i0:(0:Int)≤(i:Int):=by omega
    induction d with
    | zero =>
      intro m hd hm;have c1:¬ (m:Int)<(b.length:Int):=by omega
      refine ⟨fun X1 v _ hX=>Ev.step (fun k=>rfl) ?_,fun X1 ⟨j,hj,aa,_⟩=>by omega⟩;simp only [aa2.l1,aa2.l1T,decide_eq_true_eq,c1,if_false];exact Ev.shift hX
    | succ d ih =>
      intro m hd hm;have h2:m<b.length:=by omega
      have c1:(m:Int)<(b.length:Int):=by omega
      have c2:(0:Int)≤(m:Int):=by omega
      have hw:wq ((m:Int)+1)=((m+1:Nat):Int):=by rw [iJ (by omega) (by omega)];simp
      obtain ⟨n1,n2⟩:=ih (m+1) (by omega) (by omega);constructor
      · intro X1 v hall hX
        have:=hall m h2 (Nat.le_refl m);refine Ev.step (fun k=>rfl) ?_;simp only [aa2.l1,aa2.l1T,decide_eq_true_eq,c1,c2,i0,i1,if_true,hw,abZ a i hi,abZ b m h2];exact Ev.no (by omega) (n1 (fun k=>X1 (k+1)) v (fun j hj aa=>hall j hj (by omega)) (Ev.shift hX))
      · intro X1 ⟨j,hj,aa,hbad⟩
        refine Ev.step (fun k=>rfl) ?_;simp only [aa2.l1,aa2.l1T,decide_eq_true_eq,c1,c2,i0,i1,if_true,hw,abZ a i hi,abZ b m h2];by_cases q:a[i].f1<b[m].f0
        · refine Ev.no (by omega) (n2 (fun k=>X1 (k+1)) ⟨j,hj,?_,hbad⟩)
          rcases Nat.lt_or_ge m j with g | g
          · omega
          · have:j=m:=by omega
            subst this;exact absurd q hbad
        · exact Ev.yes (by omega) (Ev.now _)
  have outer:∀ (d n:Nat),a.length - n=d→n≤a.length→(∀ i (hi:i<a.length),i<n→∀ t∈b,a[i].f1<t.f0)→Ev (fun k=>aa2.l0 (some false) (some true) a b k (n:Int)) (jc a b):=by
    intro d;induction d with
    | zero =>
      intro n hd hn hall;have c1:¬ (n:Int)<(a.length:Int):=by omega
      have:jc a b=true:=(aip ha hb).2 fun s hs t ht=>by
        obtain ⟨i,hi,rfl⟩:=List.getElem_of_mem hs;exact hall i hi (by omega) t ht
      rw [this];refine Ev.step (fun k=>rfl) ?_;simp only [aa2.l0,aa2.l0T,decide_eq_true_eq,c1,if_false];exact Ev.now _
    | succ d ih =>
      intro n hd hn hall;have hlt:n<a.length:=by omega
      have c1:(n:Int)<(a.length:Int):=by omega
      have hw:wq ((n:Int)+1)=((n+1:Nat):Int):=by rw [iJ (by omega) (by omega)];simp
      obtain ⟨n1,n2⟩:=inner n hlt b.length 0 (by omega) (by omega);refine Ev.step (fun k=>rfl) ?_;simp only [aa2.l0,aa2.l0T,decide_eq_true_eq,c1,if_true,hw];by_cases q:∀ j (hj:j<b.length),a[n].f1<b[j].f0
      · refine n1 _ _ (fun j hj _=>q j hj) (ih (n+1) (by omega) (by omega) fun i hi hin t ht => ?_)
        rcases Nat.lt_or_ge i n with g | g
        · exact hall i hi g t ht
        · have:i=n:=by omega
          subst this;obtain ⟨j,hj,rfl⟩:=List.getElem_of_mem ht;exact q j hj
      · have hex:∃ j,∃ hj:j<b.length,0≤j∧¬ a[n].f1<b[j].f0:=Classical.byContradiction fun hx=>q fun j hj=>Classical.byContradiction fun hn=>hx ⟨j,hj,Nat.zero_le j,hn⟩
        have:jc a b=false:=by
          rw [← Bool.not_eq_true];intro e;obtain ⟨j,hj,_,hbad⟩:=hex;exact hbad ((aip ha hb).1 e _ (List.getElem_mem hlt) _ (List.getElem_mem hj))
        rw [this];exact n2 _ hex
  exact outer a.length 0 (by omega) (by omega) (fun i _ h=>by omega)
theorem aib (h:SF p c core odd):∀ (l:List Int),l.length≤100→Ev (fun k=>agr.f k p c core odd l) (aiH p c core odd [] l):=by
  intro l hl;have key:∀ (rest pre:List Int) (last:List Sp),l=pre++rest→SL (-1099511627776) 1099511627776 last→Ev (fun k=>agr.l0 (some false) (some true) l p c core odd k last (pre.length:Int)) (aiH p c core odd last rest):=by
    intro rest;induction rest with
    | nil =>
      intro pre last hp hs;have c1:¬ (pre.length:Int)<(l.length:Int):=by rw [hp];simp
      refine Ev.step (fun k=>rfl) ?_;simp only [agr.l0,agr.l0T,decide_eq_true_eq,c1,if_false];exact Ev.now _
    | cons i r ih =>
      intro pre last hp hs;have hlen:pre.length+1≤l.length:=by rw [hp];simp
      have hrd:gI l (pre.length:Int)=i:=by rw [hp];exact ajl _ _ _
      have c1:(pre.length:Int)<(l.length:Int):=by omega
      have c2:(0:Int)≤(pre.length:Int):=by omega
      have hw:=nx c1 c2 (by omega);have hg:=aia h i;refine Ev.step (fun k=>rfl) ?_;simp only [agr.l0,agr.l0T,decide_eq_true_eq,c1,c2,if_true,hrd,hw];refine Ev.bind (agW h i) ?_;unfold aiH;by_cases e0:(jm p c core odd i).2=0
      · refine Ev.no (ahL e0) (Ev.bind (ahZ hs hg) ?_)
        rw [decide_eq_true e0,Bool.true_and];cases ea:jc last (jm p c core odd i).1 with
        | false=>exact Ev.yes rfl (Ev.now _)
        | true =>
          refine Ev.no (by simp) ?_;rw [Bool.true_and,len1 pre i];by_cases z:(jm p c core odd i).1=[]
          · rw [if_pos z]
            exact Ev.no (by rw [z];simp) (ih (pre++[i]) last (by rw [hp];simp) hs)
          · rw [if_neg z]
            exact Ev.yes (by have:=List.length_pos_iff.2 z;omega) (ih (pre++[i]) _ (by rw [hp];simp) hg)
      · rw [decide_eq_false e0,Bool.false_and]
        exact Ev.yes rfl (Ev.now _)
  exact key l [] [] rfl trivial
theorem aiS (h:SF p c core odd) {i:Int} (hi:inR i):∃ lo up:Int × Bool,Ev (fun k=>agI.f k p c core odd i) lo∧Ev (fun k=>agH.f k p c core odd i) up∧(aiH p c core odd [] ((if lo.2 then [lo.1] else [])++i :: (if up.2 then [up.1] else []))=true↔Bes p c core odd i):=by
  have hi':=hi;unfold inR at hi';obtain ⟨lo,l1,l2⟩:∃ lo,Ev (fun k=>agI.f k p c core odd i) lo∧Dnw c core odd i lo:=by
    by_cases g : -1099511627776<i
    · obtain ⟨lo,l1,l2⟩:=ail h i (by omega)
      exact ⟨lo,l1,ajw hi l2⟩
    · refine ⟨(0,false),?_,aji g⟩
      unfold agI.f;exact Ev.yes (decide_eq_true (by omega)) (Ev.now _)
  obtain ⟨up,u1,u2⟩:∃ up,Ev (fun k=>agH.f k p c core odd i) up∧Upw c core odd i up:=by
    by_cases g:i<1099511627776
    · obtain ⟨up,l1,l2⟩:=aik h i (by omega)
      exact ⟨up,l1,ajv hi l2⟩
    · refine ⟨(0,false),?_,ajh g⟩
      unfold agH.f;exact Ev.yes (decide_eq_true (by omega)) (Ev.now _)
  exact ⟨lo,up,l1,u1,ajj h l2 u2⟩
theorem aiq (h:SF p c core odd):∃ e:Int,Ev (fun k=>aa4.l1 (some 50) (some 0) p c core odd k 0) e∧(e=0∨e=50)∧(e=0↔∀ g∈odd,Bes p c core odd g.f0):=by
  have hlo:=h.hlo;have key:∀ (rest pre:List Gn),odd=pre++rest→∃ e,Ev (fun k=>aa4.l1 (some 50) (some 0) p c core odd k (pre.length:Int)) e∧(e=(0:Int)∨e=50)∧(e=0↔∀ g∈rest,Bes p c core odd g.f0):=by
    intro rest;induction rest with
    | nil =>
      intro pre hp;have c1:¬ (pre.length:Int)<(odd.length:Int):=by rw [hp];simp
      refine ⟨0,Ev.step (fun k=>rfl) ?_,.inl rfl,fun _=>by simp,fun _=>rfl⟩;simp only [aa4.l1,aa4.l1T,decide_eq_true_eq,c1,if_false];exact Ev.now _
    | cons g r ih =>
      intro pre hp;have hm:g∈odd:=by rw [hp];simp
      have hlen:pre.length+1≤odd.length:=by rw [hp];simp
      have hrd:gG odd (pre.length:Int)=g:=by simp [hp,gG]
      have c1:(pre.length:Int)<(odd.length:Int):=by omega
      have c2:(0:Int)≤(pre.length:Int):=by omega
      have hw:=nx c1 c2 (by omega);obtain ⟨lo,up,l1,u1,iff⟩:=aiS h (h.hidx g hm);obtain ⟨e,e1,e2,e3⟩:=ih (pre++[g]) (by rw [hp];simp);rw [← len1] at e1;have fin:∀ l:List Int,l.length≤100→l=((if lo.2 then [lo.1] else [])++g.f0 :: (if up.2 then [up.1] else []))→∃ e':Int,Ev (fun k=>(agr.f k p c core odd l).bind fun t21=>(if (!t21)=true then some 50 else (aa4.l1 (some 50) (some 0) p c core odd k ((pre.length:Int)+1)))) e'∧(e'=0∨e'=50)∧(e'=0↔∀ g'∈g :: r,Bes p c core odd g'.f0):=by
        intro l aa hl;have o:=aib h l aa;rw [hl] at o;rw [hl];cases eb:aiH p c core odd [] ((if lo.2 then [lo.1] else [])++g.f0 :: (if up.2 then [up.1] else [])) with
        | false =>
          rw [eb] at o;refine ⟨50,Ev.bind o (Ev.yes rfl (Ev.now _)),.inr rfl,fun q=>(by cases q),fun q => ?_⟩;have:=iff.2 (q g (by simp));rw [eb] at this;cases this
        | true =>
          rw [eb] at o;refine ⟨e,Ev.bind o (Ev.no (by simp) e1),e2,e3.trans ⟨fun q g' hg' => ?_,fun q g' hg'=>q g' (List.mem_cons_of_mem _ hg')⟩⟩;rcases List.mem_cons.1 hg' with rfl | hg'
          · exact iff.1 eb
          · exact q g' hg'
      have st:∀ v:Int,Ev (fun k=>aa4.l1T (some 50) (some 0) p c core odd (aa4.l1 (some 50) (some 0) p c core odd k) k (pre.length:Int)) v→Ev (fun k=>aa4.l1 (some 50) (some 0) p c core odd k (pre.length:Int)) v:=fun v hv=>Ev.step (fun k=>rfl) hv;cases hl:lo.2 with
      | true =>
        cases hu:up.2 with
        | true =>
          obtain ⟨e',f1,f2,f3⟩:=fin [lo.1,g.f0,up.1] (by simp) (by simp [hl,hu]);refine ⟨e',st _ ?_,f2,f3⟩;simp only [aa4.l1T,decide_eq_true_eq,c1,c2,if_true,hrd,hw];exact Ev.bind l1 (Ev.yes hl (Ev.bind u1 (Ev.yes hu f1)))
        | false =>
          obtain ⟨e',f1,f2,f3⟩:=fin [lo.1,g.f0] (by simp) (by simp [hl,hu]);refine ⟨e',st _ ?_,f2,f3⟩;simp only [aa4.l1T,decide_eq_true_eq,c1,c2,if_true,hrd,hw];exact Ev.bind l1 (Ev.yes hl (Ev.bind u1 (Ev.no (by simp [hu]) f1)))
      | false =>
        cases hu:up.2 with
        | true =>
          obtain ⟨e',f1,f2,f3⟩:=fin [g.f0,up.1] (by simp) (by simp [hl,hu]);refine ⟨e',st _ ?_,f2,f3⟩;simp only [aa4.l1T,decide_eq_true_eq,c1,c2,if_true,hrd,hw];exact Ev.bind l1 (Ev.no (by simp [hl]) (Ev.bind u1 (Ev.yes hu f1)))
        | false =>
          obtain ⟨e',f1,f2,f3⟩:=fin [g.f0] (by simp) (by simp [hl,hu]);refine ⟨e',st _ ?_,f2,f3⟩;simp only [aa4.l1T,decide_eq_true_eq,c1,c2,if_true,hrd,hw];exact Ev.bind l1 (Ev.no (by simp [hl]) (Ev.bind u1 (Ev.no (by simp [hu]) f1)))
  exact key odd [] rfl
theorem aix (hl:core.length≤6000) (hlo:odd.length≤6000) (hs:kS core odd≤1000000):Ev (fun k=>aeA.f k p c core odd) (kS core odd):=by
  have nn:∀ r:List Gn,0≤(r.map fun g=>(g.f1.length:Int)).sum:=fun r=>qB (fun x hx=>by obtain ⟨g,_,rfl⟩:=List.mem_map.1 hx;omega);have nc:∀ r:List (List Sp),0≤(r.map fun g=>(g.length:Int)).sum:=fun r=>qB (fun x hx=>by obtain ⟨g,_,rfl⟩:=List.mem_map.1 hx;omega);have k1:∀ (rest pre:List Gn),odd=pre++rest→∀ x:Int,0≤x→x+(rest.map fun g=>(g.f1.length:Int)).sum≤1000000→Ev (fun k=>aeA.l1 (fun y=>some y) odd k x (pre.length:Int)) (x+(rest.map fun g=>(g.f1.length:Int)).sum):=by
    intro rest;induction rest with
    | nil =>
      intro pre hp x h0 hx;have c1:¬ (pre.length:Int)<(odd.length:Int):=by rw [hp];simp
      refine Ev.step (fun k=>rfl) ?_;simp only [aeA.l1,aeA.l1T,decide_eq_true_eq,c1,if_false,List.map_nil,List.sum_nil,Int.add_zero];exact Ev.now _
    | cons g r ih =>
      intro pre hp x h0 hx;have hlen:pre.length+1≤odd.length:=by rw [hp];simp
      have hrd:gG odd (pre.length:Int)=g:=by simp [hp,gG]
      have c1:(pre.length:Int)<(odd.length:Int):=by omega
      have c2:(0:Int)≤(pre.length:Int):=by omega
      have hw:=nx c1 c2 (by omega);have:=nn r;simp only [List.map_cons,List.sum_cons] at hx ⊢;have hw2:wq (x+(g.f1.length:Int))=x+(g.f1.length:Int):=iJ (by omega) (by omega);refine Ev.step (fun k=>rfl) ?_;simp only [aeA.l1,aeA.l1T,decide_eq_true_eq,c1,c2,if_true,hrd,hw,hw2];rw [len1 pre g,← Int.add_assoc];exact ih (pre++[g]) (by rw [hp];simp) _ (by omega) (by omega)
  have k0:∀ (rest pre:List (List Sp)),core=pre++rest→∀ (X:Nat→Int→Option Int) (x v:Int),0≤x→x+(rest.map fun g=>(g.length:Int)).sum≤1000000→Ev (fun k=>X k (x+(rest.map fun g=>(g.length:Int)).sum)) v→Ev (fun k=>aeA.l0 (X k) core k x (pre.length:Int)) v:=by
    intro rest;induction rest with
    | nil =>
      intro pre hp X x v h0 hx hX;have c1:¬ (pre.length:Int)<(core.length:Int):=by rw [hp];simp
      refine Ev.step (fun k=>rfl) ?_;simp only [List.map_nil,List.sum_nil,Int.add_zero] at hX;simp only [aeA.l0,aeA.l0T,decide_eq_true_eq,c1,if_false];exact Ev.shift hX
    | cons g r ih =>
      intro pre hp X x v h0 hx hX;have hlen:pre.length+1≤core.length:=by rw [hp];simp
      have hrd:gL core (pre.length:Int)=g:=by simp [hp,gL]
      have c1:(pre.length:Int)<(core.length:Int):=by omega
      have c2:(0:Int)≤(pre.length:Int):=by omega
      have hw:=nx c1 c2 (by omega);have:=nc r;simp only [List.map_cons,List.sum_cons] at hx hX;have hw2:wq (x+(g.length:Int))=x+(g.length:Int):=iJ (by omega) (by omega);refine Ev.step (fun k=>rfl) ?_;simp only [aeA.l0,aeA.l0T,decide_eq_true_eq,c1,c2,if_true,hrd,hw,hw2];rw [len1 pre g];rw [← Int.add_assoc] at hX;exact ih (pre++[g]) (by rw [hp];simp) (fun k=>X (k+1)) _ v (by omega) (by omega) (Ev.shift hX)
  have e:kS core odd=0+(core.map fun l=>(l.length:Int)).sum+(odd.map fun g=>(g.f1.length:Int)).sum:=by unfold kS;omega
  have n1:=nn odd;have n2:=nc core;rw [e] at hs ⊢;unfold aeA.f;exact k0 core [] rfl (fun k y1=>aeA.l1 (fun y2=>some y2) odd k y1 0) 0 _ (by omega) (by omega) (k1 odd [] rfl _ (by omega) (by omega))
theorem ahs {l:List Sp} (h:SL (-1099511627776) 1099511627776 l):Ev (fun k=>agw.f k l) true:=by
  have hl:=h.vE;unfold agw.f;have key:∀ (d m:Nat),l.length - m=d→m≤l.length→Ev (fun k=>agw.l0 (some false) (some true) l k (m:Int)) true:=by
    intro d;induction d with
    | zero =>
      intro m hd hm;have c1:¬ (m:Int)<(l.length:Int):=by omega
      refine Ev.step (fun k=>rfl) ?_;simp only [agw.l0,agw.l0T,decide_eq_true_eq,c1,if_false];exact Ev.now _
    | succ d ih =>
      intro m hd hm;have h1:m<l.length:=by omega
      have c1:(m:Int)<(l.length:Int):=by omega
      have c1':(m:Int)≤(l.length:Int):=by omega
      have c2:(0:Int)≤(m:Int):=by omega
      have hw:wq ((m:Int)+1)=((m+1:Nat):Int):=by rw [iJ (by omega) (by omega)];simp
      have t:=h.get m h1;have hi:=ih (m+1) (by omega) (by omega);refine Ev.step (fun k=>rfl) ?_;simp only [agw.l0,agw.l0T,decide_eq_true_eq,c1,c1',c2,if_true,hw,abZ l m h1,Int.toNat_natCast];refine Ev.no (by omega) (Ev.no (by omega) (Ev.no (by omega) ?_));by_cases hz:(m:Int)>0
      · have hw2:wq ((m:Int) - 1)=((m - 1:Nat):Int):=by rw [iJ (by omega) (by omega)];omega
        have r:=h.rise (m - 1) m h1 (by omega);have w3:wq (l[m].f0 - 1)=l[m].f0 - 1:=iJ (by omega) (by omega);have hh:vL (l.take m) (l[m].f0 - 1)=false:=by
          rw [← Bool.not_eq_true];intro e;simp only [vL,List.any_eq_true,Bool.and_eq_true,decide_eq_true_eq] at e;obtain ⟨s,hs,e1,e2⟩:=e;obtain ⟨j,hj,rfl⟩:=List.getElem_of_mem hs;simp only [List.length_take] at hj;rw [List.getElem_take] at e2;have:=h.rise j m h1 (by omega);omega
        simp only [hw2,abZ l (m - 1) (by omega),w3];refine Ev.yes hz (Ev.yes (by omega) (Ev.yes (by omega) (Ev.no (by omega) ?_)));have hv:=ahC (l.take m) (l[m].f0 - 1) (by rw [List.length_take];omega);rw [hh] at hv;exact Ev.bind hv (Ev.no (by simp) hi)
      · exact Ev.no hz hi
  exact key l.length 0 (by omega) (by omega)
theorem ah0 (h:SF p c core odd):Ev (fun k=>qw.f k p c core odd) true:=by
  have hl:=h.hl;have hlo:=h.hlo;have hc:=h.hc;have hp0:=h.hp0;have hp1:=h.hp1;have hz:=h.hz;have k2:∀ (d m:Nat),odd.length - m=d→m≤odd.length→Ev (fun k=>qw.l2 (some false) (some true) odd k (m:Int)) true:=by
    intro d;induction d with
    | zero =>
      intro m hd hm;have c1:¬ (m:Int)<(odd.length:Int):=by omega
      refine Ev.step (fun k=>rfl) ?_;simp only [qw.l2,qw.l2T,decide_eq_true_eq,c1,if_false];exact Ev.now _
    | succ d ih =>
      intro m hd hm;have h1:m<odd.length:=by omega
      have c1:(m:Int)<(odd.length:Int):=by omega
      have c2:(0:Int)≤(m:Int):=by omega
      have hw:wq ((m:Int)+1)=((m+1:Nat):Int):=by rw [iJ (by omega) (by omega)];simp
      have hi:=ih (m+1) (by omega) (by omega);have hr:=ahs (h.hodd _ (List.getElem_mem h1));have hx:=h.hidx _ (List.getElem_mem h1);unfold inR at hx;refine Ev.step (fun k=>rfl) ?_;simp only [qw.l2,qw.l2T,decide_eq_true_eq,c1,c2,if_true,hw,rdG odd m h1];refine Ev.bind hr (Ev.no (by simp) (Ev.no (by omega) (Ev.no (by omega) ?_)));by_cases hz:(m:Int)>0
      · have hw2:wq ((m:Int) - 1)=((m - 1:Nat):Int):=by rw [iJ (by omega) (by omega)];omega
        have r:=List.pairwise_iff_getElem.1 h.hup (m - 1) m (by omega) h1 (by omega);simp only [hw2,rdG odd (m - 1) (by omega)];exact Ev.yes hz (Ev.yes (by omega) (Ev.yes (by omega) (Ev.no (by omega) hi)))
      · exact Ev.no hz hi
  have k1:∀ (d m:Nat),core.length - m=d→m≤core.length→∀ X:Nat→Option Bool,Ev X true→Ev (fun k=>qw.l1 (some false) (X k) core k (m:Int)) true:=by
    intro d;induction d with
    | zero =>
      intro m hd hm X hX;have c1:¬ (m:Int)<(core.length:Int):=by omega
      refine Ev.step (fun k=>rfl) ?_;simp only [qw.l1,qw.l1T,decide_eq_true_eq,c1,if_false];exact Ev.shift hX
    | succ d ih =>
      intro m hd hm X hX;have h1:m<core.length:=by omega
      have c1:(m:Int)<(core.length:Int):=by omega
      have c2:(0:Int)≤(m:Int):=by omega
      have hw:wq ((m:Int)+1)=((m+1:Nat):Int):=by rw [iJ (by omega) (by omega)];simp
      have hr:=ahs (h.hcore _ (List.getElem_mem h1));refine Ev.step (fun k=>rfl) ?_;simp only [qw.l1,qw.l1T,decide_eq_true_eq,c1,c2,if_true,hw,rdL core m h1];exact Ev.bind hr (Ev.no (by simp) (ih (m+1) (by omega) (by omega) (fun k=>X (k+1)) (Ev.shift hX)))
  have l0:Ev (fun k=>qw.l0 (fun _ _ _ _=>some false) (fun _ _ _ _=>some true) k p c core odd) true:=by
    unfold qw.l0;exact k1 core.length 0 (by omega) (by omega) _ (k2 odd.length 0 (by omega) (by omega))
  unfold qw.f;refine Ev.no (by simp [hc]) (Ev.no (by simp;omega) (Ev.no (by simp;omega) ?_));by_cases c0:c=0
  · exact Ev.yes (decide_eq_true c0) (Ev.no (ahL (hz.1 c0)) (Ev.no (ahL c0) l0))
  · exact Ev.no (by simp [c0]) (Ev.yes (ahW c0) (Ev.no (by simp;intro e;exact c0 (hz.2 e)) l0))
theorem aiy (h:SF p c core odd) (kr:List Gn):∃ b,Ev (fun k=>agv.f k p c core kr) b∧(b=true↔TF p core):=by
  have hl:=h.hl;have hp0:=h.hp0;have hp1:=h.hp1;unfold agv.f;obtain ⟨E,hE⟩:∃ E:Int→List Sp→Option Bool,E=(fun y6 y7=>(if (decide (y6<0))=true then (some true) else (if 0≤(wq ((y7.length:Int) - 1)) then (if (wq ((y7.length:Int) - 1))<(y7.length:Int) then (if 0≤y6 then (if y6<(core.length:Int) then (if 0<((gL core y6).length:Int) then (some (decide ((gS y7 (wq ((y7.length:Int) - 1))).f1<(wq ((gS (gL core y6) 0).f0+p))))) else none) else none) else none) else none) else none))):=⟨_,rfl⟩;have key:∀ (d n:Nat),core.length - n=d→n≤core.length→(∀ i j (hi:i<core.length) (hj:j<core.length),i<j→j<n→core[i]≠[]→core[j]≠[]→kT core[i]<kJ core[j])→∀ (f:Int) (last:List Sp),((f = -1∧last=[]∧∀ j (hj:j<core.length),j<n→core[j]=[])∨(∃ a b:Nat,∃ hb:b<n,∃ hbl:b<core.length,a≤b∧f=(a:Int)∧last=core[b]∧core[b]≠[]∧(∃ ha:a<core.length,core[a]≠[])∧(∀ j (hj:j<core.length),j<a→core[j]=[])∧∀ j (hj:j<core.length),b<j→j<n→core[j]=[])) →
      ∃ r,Ev (fun k=>agv.l0 (fun _ _=>some false) E core k f last (n:Int)) r∧(r=true↔TF p core):=by
    intro d;induction d with
    | zero =>
      intro n hd hn hall f last hst;obtain rfl:n=core.length:=by omega
      have c1:¬ (core.length:Int)<(core.length:Int):=by omega
      have ta:core.Pairwise (fun a b=>a≠[]→b≠[]→kT a<kJ b):=List.pairwise_iff_getElem.2 fun i j hi hj hij=>hall i j hi hj hij hj;rcases hst with ⟨rfl,rfl,hz⟩ | ⟨a,b,hb,hbl,hab,rfl,rfl,nb,⟨ha,na⟩,hlo,hhi⟩
      · refine ⟨true,Ev.step (fun k=>rfl) ?_,fun _=>⟨ta,fun x hx y hy nx => ?_⟩,fun _=>rfl⟩
        · simp only [agv.l0,agv.l0T,decide_eq_true_eq,c1,if_false,hE]
          exact Ev.yes (by omega) (Ev.now _)
        · obtain ⟨j,hj,rfl⟩:=List.getElem_of_mem hx
          exact absurd (hz j hj hj) nx
      · have hSb:=h.hcore _ (List.getElem_mem hbl)
        have aa:=h.hcore _ (List.getElem_mem ha);obtain ⟨w1,w2,w3⟩:=afJ core[b] nb hSb.vE;obtain ⟨g1,g2⟩:=afI core[a] na;have hfa:=aa.ends na;have hw:wq (kJ core[a]+p)=kJ core[a]+p:=iJ (by omega) (by omega);refine ⟨decide (kT core[b]<kJ core[a]+p),Ev.step (fun k=>rfl) ?_,?_⟩
        · simp only [agv.l0,agv.l0T,decide_eq_true_eq,c1,if_false,hE,w1,rdL core a ha,w3,g2,hw]
          exact Ev.no (by omega) (Ev.yes w2 (Ev.yes (by omega) (Ev.yes (by omega) (Ev.yes (by omega) (Ev.yes (by omega) (Ev.now _))))))
        · rw [decide_eq_true_eq]
          constructor
          · intro hlt
            refine ⟨ta,fun x hx y hy nx ny => ?_⟩;obtain ⟨i,hi,rfl⟩:=List.getElem_of_mem hx;obtain ⟨j,hj,rfl⟩:=List.getElem_of_mem hy;have q1:kT core[i]≤kT core[b]:=by
              rcases Nat.lt_trichotomy i b with g | g | g
              · have:=hall i b hi hbl g (by omega) nx nb
                have:=hSb.ends nb;omega
              · subst g;exact Int.le_refl _
              · exact absurd (hhi i hi g (by omega)) nx
            have q2:kJ core[a]≤kJ core[j]:=by
              rcases Nat.lt_trichotomy a j with g | g | g
              · have:=hall a j ha hj g (by omega) na ny
                omega
              · subst g;exact Int.le_refl _
              · exact absurd (hlo j hj g) ny
            omega
          · exact fun t=>t.tb _ (List.getElem_mem hbl) _ (List.getElem_mem ha) nb na
    | succ d ih =>
      intro n hd hn hall f last hst;have hlt:n<core.length:=by clear hst;omega
      have hd1:core.length - (n+1)=d:=by clear hst;omega
      have c1:(n:Int)<(core.length:Int):=by omega
      have c2:(0:Int)≤(n:Int):=by omega
      have hw:wq ((n:Int)+1)=((n+1:Nat):Int):=by rw [iJ (by omega) (by omega)];simp
      have hS:=h.hcore _ (List.getElem_mem hlt);have ab:SL (-1099511627776) 1099511627776 last:=by
        rcases hst with ⟨_,rfl,_⟩ | ⟨a,b,hb,hbl,hab,_,rfl,_⟩
        · trivial
        · exact h.hcore _ (List.getElem_mem hbl)
      have ah:=ahZ ab hS;have st:∀ v:Bool,Ev (fun k=>(aa2.f k last core[n]).bind fun t3=>(if (!t3)=true then some false else (if (decide ((core[n].length:Int)>0))=true then (if (decide (f<0))=true then (agv.l0 (fun _ _=>some false) E core k (n:Int) core[n] ((n+1:Nat):Int)) else (agv.l0 (fun _ _=>some false) E core k f core[n] ((n+1:Nat):Int))) else (agv.l0 (fun _ _=>some false) E core k f last ((n+1:Nat):Int))))) v→Ev (fun k=>agv.l0 (fun _ _=>some false) E core k f last (n:Int)) v:=fun v hv=>by
        refine Ev.step (fun k=>rfl) ?_;simp only [agv.l0,agv.l0T,decide_eq_true_eq,c1,c2,if_true,hw,rdL core n hlt];simp only [decide_eq_true_eq] at hv;exact hv
      cases ea:jc last core[n] with
      | false =>
        rw [ea] at ah;refine ⟨false,st _ (Ev.bind ah (Ev.yes rfl (Ev.now _))),fun q=>(by cases q),fun t => ?_⟩;have nn:¬ (last≠[]→core[n]≠[]→kT last<kJ core[n]):=fun q=>by
          rw [← qA,ea] at q;cases q
        rcases hst with ⟨_,rfl,_⟩ | ⟨a,b,hb,hbl,hab,_,rfl,_⟩
        · exact absurd (fun q=>absurd rfl q) nn
        · exact absurd (List.pairwise_iff_getElem.1 t.ta b n hbl hlt hb) nn
      | true =>
        rw [ea] at ah;rw [qA] at ea;by_cases z:core[n]=[]
        · obtain ⟨r,r1,r2⟩:=ih (n+1) hd1 hlt (fun i j hi hj hij hjn ni nj=>by
            rcases Nat.lt_or_ge j n with g | g
            · exact hall i j hi hj hij g ni nj
            · have:j=n:=by omega
              subst this;exact absurd z nj) f last (by
            rcases hst with ⟨e1,e2,e3⟩ | ⟨a,b,hb,hbl,hab,e1,e2,e3,e4,e5,e6⟩
            · refine .inl ⟨e1,e2,fun j hj hjn => ?_⟩
              rcases Nat.lt_or_ge j n with g | g
              · exact e3 j hj g
              · have:j=n:=Nat.le_antisymm (Nat.le_of_lt_succ hjn) g
                subst this;exact z
            · refine .inr ⟨a,b,Nat.lt_succ_of_lt hb,hbl,hab,e1,e2,e3,e4,e5,fun j hj hbj hjn => ?_⟩
              rcases Nat.lt_or_ge j n with g | g
              · exact e6 j hj hbj g
              · have:j=n:=Nat.le_antisymm (Nat.le_of_lt_succ hjn) g
                subst this;exact z)
          exact ⟨r,st _ (Ev.bind ah (Ev.no (by simp) (Ev.no (by rw [z];simp) r1))),r2⟩
        · have hall':∀ i j (hi:i<core.length) (hj:j<core.length),i<j→j<n+1→core[i]≠[]→core[j]≠[]→kT core[i]<kJ core[j]:=fun i j hi hj hij hjn ni nj=>by
            rcases Nat.lt_or_ge j n with g | g
            · exact hall i j hi hj hij g ni nj
            · have:j=n:=by omega
              subst this;rcases hst with ⟨e1,e2,e3⟩ | ⟨a,b,hb,hbl,hab,e1,e2,e3,e4,e5,e6⟩
              · exact absurd (e3 i hi hij) ni
              · have q:=ea (by rw [e2];exact e3) z
                rw [e2] at q;rcases Nat.lt_trichotomy i b with g2 | g2 | g2
                · have:=hall i b hi hbl g2 hb ni e3
                  have:=(h.hcore _ (List.getElem_mem hbl)).ends e3;omega
                · subst g2;exact q
                · exact absurd (e6 i hi g2 hij) ni
          have hpos:((core[n].length:Int)>0):=by have:=List.length_pos_iff.2 z;omega
          rcases hst with ⟨e1,e2,e3⟩ | ⟨a,b,hb,hbl,hab,e1,e2,e3,e4,e5,e6⟩
          · obtain ⟨r,r1,r2⟩:=ih (n+1) hd1 hlt hall' (n:Int) core[n] (.inr ⟨n,n,by omega,hlt,Nat.le_refl n,rfl,rfl,z,⟨hlt,z⟩,fun j hj hjn=>e3 j hj hjn,fun j hj h1 h2=>by omega⟩)
            exact ⟨r,st _ (Ev.bind ah (Ev.no (by simp) (Ev.yes (decide_eq_true hpos) (Ev.yes (decide_eq_true (by omega)) r1)))),r2⟩
          · obtain ⟨r,r1,r2⟩:=ih (n+1) hd1 hlt hall' f core[n] (.inr ⟨a,n,by omega,hlt,by omega,e1,rfl,z,e4,e5,fun j hj h1 h2=>by omega⟩)
            exact ⟨r,st _ (Ev.bind ah (Ev.no (by simp) (Ev.yes (decide_eq_true hpos) (Ev.no (by simp;omega) r1)))),r2⟩
  obtain ⟨r,r1,r2⟩:=key core.length 0 (by omega) (by omega) (fun i j _ _ _ h=>by omega) (-1) [] (.inl ⟨rfl,rfl,fun j _ h=>by omega⟩);rw [hE] at r1;exact ⟨r,r1,r2⟩
theorem aiz (h:SF p c core odd) (hs:kS core odd≤60000):∃ e:Int,Ev (fun k=>aa4.f k p c core odd) e∧(e=0∨e=50)∧(e=0↔GR p c core odd):=by
  have hl:=h.hl;have hlo:=h.hlo;have sz:=aix (p:=p) (c:=c) hl hlo (by omega);obtain ⟨b,b1,b2⟩:=aiy h [];obtain ⟨e,e1,e2,e3⟩:=aiq h;unfold aa4.f;cases b with
  | false =>
    refine ⟨50,Ev.no (by simp;omega) (Ev.no (by simp;omega) (Ev.bind sz (Ev.no (by simp;omega) ?_))),.inr rfl,fun q=>(by cases q),fun g=>absurd (b2.2 g.t) (by simp)⟩;unfold aa4.l0;exact Ev.bind (ah0 h) (Ev.no (by simp) (Ev.bind (Ev.now _) (Ev.bind b1 (Ev.yes rfl (Ev.now _)))))
  | true =>
    refine ⟨e,Ev.no (by simp;omega) (Ev.no (by simp;omega) (Ev.bind sz (Ev.no (by simp;omega) ?_))),e2,e3.trans ⟨fun q=>⟨h,b2.1 rfl,q⟩,fun g=>g.b⟩⟩;unfold aa4.l0;exact Ev.bind (ah0 h) (Ev.no (by simp) (Ev.bind (Ev.now _) (Ev.bind b1 (Ev.no (by simp) e1))))
end Go.Proofs.YtcomnjodjijcmaaGreat.Q
namespace Go.Proofs.YtcomnjodjijcmaaGreat.Q
set_option linter.unusedVariables false
set_option linter.unusedSimpArgs false
open Go.RowKit Go.Proofs.YtcomnjodjijcmaaGreatW.dz Go.Proofs.YtcomnjodjijcmaaGreatW.eD M R P
section
theorem ai4 (k:Nat) (l:List Sp) (h:l.length≤8796093022208):agN.f k l=some l:=by
  unfold agN.f;have c1:(0:Int)≤(l.length:Int):=by omega
  have c2:(l.length:Int)≤8796093022208:=by omega
  rw [if_pos c1,if_pos c2];simp
end
variable [Inhabited WT]
variable {p c:Int} {core:List (List Sp)} {odd:List Gn}
theorem ah1 (h:SF p c core odd):Ev (fun k=>aa3.f k p c core odd) (⟨p,c,core,odd⟩:P.S25):=by
  have lc:=h.hl;have lo:=h.hlo;have k1:∀ (d n:Nat),odd.length - n=d→n≤odd.length→Ev (fun k=>aa3.l1 (fun y8=>some (⟨p,c,core,y8⟩:P.S25)) odd (odd.length:Int) k (n:Int) (odd.take n)) ⟨p,c,core,odd⟩:=by
    intro d;induction d with
    | zero =>
      intro n hd hn;rw [List.take_of_length_le (by omega)];have c1:¬ (n:Int)<(odd.length:Int):=by omega
      refine Ev.step (fun k=>rfl) ?_;simp only [aa3.l1,aa3.l1T,decide_eq_true_eq,c1,if_false];exact Ev.now _
    | succ d ih =>
      intro n hd hn;have hlt:n<odd.length:=by omega
      have hb:=SL.len (lo:=0) (h.hodd _ (List.getElem_mem hlt));have ha:∀ k,agN.f k odd[n].f1=some odd[n].f1:=fun k=>ai4 k _ (by omega);have htk:odd.take n++[odd[n]]=odd.take (n+1):=(List.take_succ_eq_append_getElem hlt).symm;have hl:(odd.take n).length+1≤4398046511104:=by simp only [List.length_take];omega
      have c1:(n:Int)<(odd.length:Int):=by omega
      have c2:(0:Int)≤(n:Int):=by omega
      have hrd:=rdG odd n hlt;have hw:wq ((n:Int)+1)=((n+1:Nat):Int):=by rw [iJ (by omega) (by omega)];simp
      have hi:=ih (n+1) (by omega) (by omega);rw [← htk] at hi;refine Ev.step (fun k=>rfl) ?_;simp only [aa3.l1,aa3.l1T,decide_eq_true_eq,c1,c2,if_true,hrd,hw,ha,Option.bind_some,hl];exact hi
  have k0:∀ (d n:Nat),core.length - n=d→n≤core.length→∀ (Y:Nat→List (List Sp)→Option P.S25),Ev (fun k=>Y k core) ⟨p,c,core,odd⟩→Ev (fun k=>aa3.l0 (Y k) core (core.length:Int) k (n:Int) (core.take n)) ⟨p,c,core,odd⟩:=by
    intro d;induction d with
    | zero =>
      intro n hd hn Y hY;rw [List.take_of_length_le (by omega)];have c1:¬ (n:Int)<(core.length:Int):=by omega
      refine Ev.step (fun k=>rfl) ?_;simp only [aa3.l0,aa3.l0T,decide_eq_true_eq,c1,if_false];exact Ev.shift hY
    | succ d ih =>
      intro n hd hn Y hY;have hlt:n<core.length:=by omega
      have hb:=SL.len (lo:=0) (h.hcore _ (List.getElem_mem hlt));have ha:∀ k,agN.f k core[n]=some core[n]:=fun k=>ai4 k _ (by omega);have htk:core.take n++[core[n]]=core.take (n+1):=(List.take_succ_eq_append_getElem hlt).symm;have hl:(core.take n).length+1≤5864062014805:=by simp only [List.length_take];omega
      have c1:(n:Int)<(core.length:Int):=by omega
      have c2:(0:Int)≤(n:Int):=by omega
      have hrd:=rdL core n hlt;have hw:wq ((n:Int)+1)=((n+1:Nat):Int):=by rw [iJ (by omega) (by omega)];simp
      have hi:=ih (n+1) (by omega) (by omega) (fun k=>Y (k+1)) (Ev.shift hY);rw [← htk] at hi;refine Ev.step (fun k=>rfl) ?_;simp only [aa3.l0,aa3.l0T,decide_eq_true_eq,c1,c2,if_true,hrd,hw,ha,Option.bind_some,hl];exact hi
  unfold aa3.f;exact k0 core.length 0 (by omega) (by omega) (fun k y4=>aa3.l1 (fun y8=>some (⟨p,c,y4,y8⟩:P.S25)) odd (odd.length:Int) k 0 []) (k1 odd.length 0 (by omega) (by omega))
end Go.Proofs.YtcomnjodjijcmaaGreat.Q
namespace Go.Proofs.YtcomnjodjijcmaaGreat.Q
set_option linter.unusedVariables false
set_option linter.unusedSimpArgs false
open Go.RowKit Go.Proofs.YtcomnjodjijcmaaGreatW.dz Go.Proofs.YtcomnjodjijcmaaGreatW.eD M R P
section
variable {D:List Sp→List Sp→List Sp} {A B:Fm}
theorem aiA (hD:vN D) (a:NF A) (b:NF B) (hn:nF A B≤144) {r r':Fm × Int} (h:OfS D A B r) (h':OfS D A B r'):r=r':=by
  by_cases hal:kF A B
  · by_cases g:grF (fM D A B)
    · obtain ⟨x,k,rfl⟩:=(h.2 hal).2 g
      obtain ⟨y,k',rfl⟩:=(h'.2 hal).2 g;rw [U.adk (lC hD a b hn) k k']
    · rw [(h.2 hal).1 g,(h'.2 hal).1 g]
  · rw [h.1 hal,h'.1 hal]
end
variable [Inhabited WT]
variable {p c p' c':Int} {core fu:List (List Sp)} {odd kr:List Gn} {A B:Fm}
theorem ah2 (ra:Ev (fun k=>nu.f k p c core odd) A) (rb:Ev (fun k=>nu.f k p' c' fu kr) B) (a:Sml A) (b:Sml B) :
    ∃ r,Ev (fun k=>ags.f k p c core odd p' c' fu kr) r∧(r.1=true↔kF A B)∧(r.2=0∨r.2=51)∧(r.2=51↔¬ mG A B):=by
  have aa:=abR a b;have H:=a.nf.of b.nf aa;obtain ⟨f,f1,f2⟩:=aiF H;unfold ags.f;cases f with
  | false =>
    have hf:¬ mG A B:=fun h=>by have:=f2.2 h;cases this
    exact ⟨(false,51),Ev.bind ra (Ev.bind rb (Ev.bind f1 (Ev.no (by simp) (Ev.yes rfl (Ev.now _))))),⟨fun e=>(by cases e),fun h=>absurd h.1 hf⟩,.inr rfl,fun _=>hf,fun _=>rfl⟩
  | true =>
    have hf:=f2.1 rfl;have key:∀ (d n:Nat),1401 - n=d→n≤1401→(∀ i:Int,-700≤i→i < -700+(n:Int)→al (gF A i) (gF B i))→∃ r:Bool,Ev (fun k=>ags.l0 (some (false,(0:Int))) (some (true,0)) A.f0 A.f1 A.f2 A.f3 B.f0 B.f1 B.f2 B.f3 k (-700+(n:Int))) (r,0)∧(r=true↔∀ i:Int,-700≤i→i≤700→al (gF A i) (gF B i)):=by
      intro d;induction d with
      | zero =>
        intro n hd hn hall;have c1:¬ (-700+(n:Int)≤700):=by omega
        refine ⟨true,Ev.step (fun k=>rfl) ?_,fun _ i h1 h2=>hall i h1 (by omega),fun _=>rfl⟩;simp only [ags.l0,ags.l0T,decide_eq_true_eq,c1,if_false];exact Ev.now _
      | succ d ih =>
        intro n hd hn hall;obtain ⟨i,hi⟩:∃ i:Int,i = -700+(n:Int):=⟨_,rfl⟩;have c1:i≤700:=by omega
        have hw:wq (i+1) = -700+((n+1:Nat):Int):=by rw [iJ (by omega) (by omega)];omega
        have va:=a.nf.v (i:=i) (by omega) (by omega);have vb:=b.nf.v (i:=i) (by omega) (by omega);have ga:Ev (fun k=>agF.f k A.f0 A.f1 A.f2 A.f3 i) (gF A i,0):=by
          have:=agW a.nf.cn.s i;rw [show jm A.f0 A.f1 A.f2 A.f3 i=vF A i from rfl,va] at this;exact this
        have gb:Ev (fun k=>agF.f k B.f0 B.f1 B.f2 B.f3 i) (gF B i,0):=by
          have:=agW b.nf.cn.s i;rw [show jm B.f0 B.f1 B.f2 B.f3 i=vF B i from rfl,vb] at this;exact this
        have la:=a.nf.ln i;have lb:=b.nf.ln i;obtain ⟨s,s1,s2⟩:=ain (aeR a.nf.cn.s (a.nf.tk i (by omega) (by omega))) (aeR b.nf.cn.s (b.nf.tk i (by omega) (by omega))) (by omega);rw [← hi] at hall ⊢;have next:al (gF A i) (gF B i)→∃ r:Bool,Ev (fun k=>ags.l0 (some (false,(0:Int))) (some (true,0)) A.f0 A.f1 A.f2 A.f3 B.f0 B.f1 B.f2 B.f3 k (-700+((n+1:Nat):Int))) (r,0)∧(r=true↔∀ i:Int,-700≤i→i≤700→al (gF A i) (gF B i)):=fun q =>
          ih (n+1) (by omega) (by omega) fun j h1 h2=>by
            rcases Int.lt_or_le j i with g | g
            · exact hall j h1 g
            · have:j=i:=by omega
              rw [this];exact q
        have st:∀ v,Ev (fun k=>if (decide (((gF A i).length:Int)>0))=true then (if (decide (((gF B i).length:Int)>0))=true then ((agM.f k (gF A i) (gF B i)).bind fun t12=>(if (!t12)=true then some (false,(0:Int)) else (ags.l0 (some (false,(0:Int))) (some (true,0)) A.f0 A.f1 A.f2 A.f3 B.f0 B.f1 B.f2 B.f3 k (-700+((n+1:Nat):Int))))) else (ags.l0 (some (false,(0:Int))) (some (true,0)) A.f0 A.f1 A.f2 A.f3 B.f0 B.f1 B.f2 B.f3 k (-700+((n+1:Nat):Int)))) else (ags.l0 (some (false,(0:Int))) (some (true,0)) A.f0 A.f1 A.f2 A.f3 B.f0 B.f1 B.f2 B.f3 k (-700+((n+1:Nat):Int)))) v→Ev (fun k=>ags.l0 (some (false,(0:Int))) (some (true,0)) A.f0 A.f1 A.f2 A.f3 B.f0 B.f1 B.f2 B.f3 k i) v:=fun v hv=>by
          refine Ev.step (fun k=>rfl) ?_;simp only [ags.l0,ags.l0T,hw];exact Ev.yes (decide_eq_true c1) (Ev.bind ga (Ev.bind gb hv))
        by_cases n1:gF A i=[]
        · obtain ⟨r,r1,r2⟩:=next fun h=>absurd n1 h
          exact ⟨r,st _ (Ev.no (by rw [n1];simp) r1),r2⟩
        by_cases n2:gF B i=[]
        · obtain ⟨r,r1,r2⟩:=next fun _ h=>absurd n2 h
          exact ⟨r,st _ (Ev.yes (decide_eq_true (by have:=List.length_pos_iff.2 n1;omega)) (Ev.no (by rw [n2];simp) r1)),r2⟩
        cases s with
        | true =>
          obtain ⟨r,r1,r2⟩:=next fun _ _=>s2.1 rfl
          exact ⟨r,st _ (Ev.yes (decide_eq_true (by have:=List.length_pos_iff.2 n1;omega)) (Ev.yes (decide_eq_true (by have:=List.length_pos_iff.2 n2;omega)) (Ev.bind s1 (Ev.no (by simp) r1)))),r2⟩
        | false =>
          refine ⟨false,st _ (Ev.yes (decide_eq_true (by have:=List.length_pos_iff.2 n1;omega)) (Ev.yes (decide_eq_true (by have:=List.length_pos_iff.2 n2;omega)) (Ev.bind s1 (Ev.yes rfl (Ev.now _))))),fun e=>(by cases e),fun h => ?_⟩;exact absurd (s2.2 (h i (by omega) c1 n1 n2)) (by simp)
    obtain ⟨r,r1,r2⟩:=key 1401 0 (by omega) (by omega) (fun i h1 h2=>by omega);refine ⟨(r,0),Ev.bind ra (Ev.bind rb (Ev.bind f1 (Ev.no (by simp) (Ev.no (by simp) r1)))),?_,.inl rfl,fun e=>(by cases e),fun e=>absurd hf e⟩;rw [r2];exact ⟨fun h=>aju a.nf b.nf aa hf h,fun h i _ _=>ajr a.nf b.nf h i⟩
theorem aic {D:List Sp→List Sp→List Sp} (hD:vN D) {K:Int} (hK:∀ k x y,agK.f k K x y=some (D x y)) (ra:Ev (fun k=>nu.f k p c core odd) A) (rb:Ev (fun k=>nu.f k p' c' fu kr) B) (a:Sml A) (b:Sml B) :
    ∃ r,Ev (fun k=>aev.f k K p c core odd p' c' fu kr) r∧OfS D A B r:=by
  have aa:=abR a b;have H:=a.nf.of b.nf aa;obtain ⟨is,i1,i2,i3,i4⟩:=ah2 ra rb a b;unfold aev.f;by_cases hf:mG A B
  case neg =>
    have e:=i4.2 hf;refine ⟨(noF,51),Ev.bind i1 (Ev.yes (by rw [e];simp) ?_),fun _=>rfl,fun h=>absurd h.1 hf⟩;rw [e];exact Ev.now _
  have e0:is.2=0:=by
    rcases i3 with e | e
    · exact e
    · exact absurd hf (i4.1 e)
  by_cases hal:kF A B
  case neg =>
    have e1:is.1=false:=by
      rw [← Bool.not_eq_true,i2];exact hal
    exact ⟨(noF,51),Ev.bind i1 (Ev.no (ahL e0) (Ev.yes (by rw [e1];rfl) (Ev.now _))),fun _=>rfl,fun h=>absurd h hal⟩
  have e1:=i2.2 hal;have rr:=agX H.sa H.sb H.n H.t;have od:=aiG (A:=A) (B:=B) (by have:=H.o;omega);have sO:=lC hD a.nf b.nf aa;have zO:=jS hD a.nf b.nf aa;obtain ⟨e,r1,r2,r3⟩:=aiz sO zO;obtain ⟨h,_,sh⟩:=j5 sO;have hil:=mX A B;have ab:=H.o;have k0:∀ (d n:Nat),nF A B - n=d→n≤nF A B→∀ (X:Nat→List (List Sp)→Option (Fm × Int)) (v:Fm × Int),Ev (fun k=>X k (fM D A B).f2) v→Ev (fun k=>aev.l0 (X k) K (nF A B:Int) A.f0 A.f1 A.f2 A.f3 B.f0 B.f1 B.f2 B.f3 k (n:Int) ((List.range n).map fun (i:Nat)=>D (bF A (i:Int)) (bF B (i:Int)))) v:=by
    intro d;induction d with
    | zero =>
      intro n hd hn X v hX;obtain rfl:n=nF A B:=by omega
      have c1:¬ ((nF A B:Nat):Int)<((nF A B:Nat):Int):=by omega
      refine Ev.step (fun k=>rfl) ?_;simp only [aev.l0,aev.l0T,decide_eq_true_eq,c1,if_false];exact Ev.shift hX
    | succ d ih =>
      intro n hd hn X v hX;have hlt:n<nF A B:=by omega
      have c1:(n:Int)<((nF A B:Nat):Int):=by omega
      have hw:wq ((n:Int)+1)=((n+1:Nat):Int):=by rw [iJ (by omega) (by omega)];simp
      have hl:((List.range n).map fun (i:Nat)=>D (bF A (i:Int)) (bF B (i:Int))).length+1≤5864062014805:=by simp;omega
      have hi:=ih (n+1) (by omega) (by omega) (fun k=>X (k+1)) v (Ev.shift hX);rw [List.range_succ,List.map_append] at hi;have ea:=aio (odd:=[]) H.sa.abd (n:Int) (by omega) H.pa (H.ma (n:Int) (by omega) (by omega));have eb:=aio (odd:=[]) H.sb.abd (n:Int) (by omega) H.pb (H.mb (n:Int) (by omega) (by omega));refine Ev.step (fun k=>rfl) ?_;simp only [aev.l0,aev.l0T,decide_eq_true_eq,c1,if_true,hw,hl,hK,agP.f,Option.bind_some];exact Ev.bind ea (Ev.bind eb hi)
  have k1:∀ (rest pre:List Int),iK A B=pre++rest→∀ (X:Nat→List Gn→Option (Fm × Int)) (v:Fm × Int),Ev (fun k=>X k (fM D A B).f3) v→Ev (fun k=>aev.l1 (X k) K (iK A B) A.f0 A.f1 A.f2 A.f3 B.f0 B.f1 B.f2 B.f3 k (pre.length:Int) (pre.map fun i=>(⟨i,D (vF A i).1 (vF B i).1⟩:Gn))) v:=by
    intro rest;induction rest with
    | nil =>
      intro pre hp X v hX;have e:iK A B=pre:=by rw [hp];simp
      have c1:¬ (pre.length:Int)<((iK A B).length:Int):=by rw [e];omega
      refine Ev.step (fun k=>rfl) ?_;simp only [aev.l1,aev.l1T,decide_eq_true_eq,c1,if_false];rw [← e];exact Ev.shift hX
    | cons i r ih =>
      intro pre hp X v hX;have hlen:pre.length+1≤(iK A B).length:=by rw [hp];simp
      have hrd:gI (iK A B) (pre.length:Int)=i:=by rw [hp];exact ajl _ _ _
      have c1:(pre.length:Int)<((iK A B).length:Int):=by omega
      have c2:(0:Int)≤(pre.length:Int):=by omega
      have hw:=nx c1 c2 (by omega);have hl:(pre.map fun i=>(⟨i,D (vF A i).1 (vF B i).1⟩:Gn)).length+1≤4398046511104:=by simp;omega
      have hi:=ih (pre++[i]) (by rw [hp];simp) (fun k=>X (k+1)) v (Ev.shift hX);rw [← len1,List.map_append] at hi;refine Ev.step (fun k=>rfl) ?_;simp only [aev.l1,aev.l1T,decide_eq_true_eq,c1,c2,if_true,hrd,hw,hl,hK,Option.bind_some];exact Ev.bind (agW H.sa i) (Ev.bind (agW H.sb i) hi)
  have go:∀ v:Fm × Int,Ev (fun k=>(aa4.f k (tF A B) (nF A B:Int) (fM D A B).f2 (fM D A B).f3).bind fun t32=>(if (decide (t32=3))=true then (some ((⟨0,0,[],[]⟩:Fm),(3:Int))) else (if (!(decide (t32=0)))=true then (some ((⟨0,0,[],[]⟩:Fm),51)) else ((nu.f k (tF A B) (nF A B:Int) (fM D A B).f2 (fM D A B).f3).bind fun t33=>(some (t33,0)))))) v→Ev (fun k=>(ags.f k p c core odd p' c' fu kr).bind fun t1=>(if (!(decide (t1.2=0)))=true then (some ((⟨0,0,[],[]⟩:Fm),t1.2)) else (if (!t1.1)=true then (some ((⟨0,0,[],[]⟩:Fm),51)) else ((nu.f k p c core odd).bind fun t2=>((nu.f k p' c' fu kr).bind fun t3=>((agE.f k t2.f0 t2.f1 t2.f2 t2.f3 t3.f0 t3.f1 t3.f2 t3.f3).bind fun t4=>(aev.l0 (fun y20=>((afv.f k t2.f0 t2.f1 t2.f2 t2.f3 t3.f0 t3.f1 t3.f2 t3.f3).bind fun t21=>(aev.l1 (fun y31=>((aa4.f k t4.2.1 t4.1 y20 y31).bind fun t32=>(if (decide (t32=3))=true then (some ((⟨0,0,[],[]⟩:Fm),3)) else (if (!(decide (t32=0)))=true then (some ((⟨0,0,[],[]⟩:Fm),51)) else ((nu.f k t4.2.1 t4.1 y20 y31).bind fun t33=>(some (t33,0))))))) K t21 t2.f0 t2.f1 t2.f2 t2.f3 t3.f0 t3.f1 t3.f2 t3.f3 k 0 []))) K t4.1 t2.f0 t2.f1 t2.f2 t2.f3 t3.f0 t3.f1 t3.f2 t3.f3 k 0 []))))))) v:=fun v hv=>by
    refine Ev.bind i1 (Ev.no (ahL e0) (Ev.no (by rw [e1];simp) (Ev.bind ra (Ev.bind rb (Ev.bind rr ?_)))));refine k0 (nF A B) 0 (by omega) (by omega) (fun k y20=>((afv.f k A.f0 A.f1 A.f2 A.f3 B.f0 B.f1 B.f2 B.f3).bind fun t21=>(aev.l1 (fun y31=>((aa4.f k (tF A B) (nF A B:Int) y20 y31).bind fun t32=>(if (decide (t32=3))=true then (some ((⟨0,0,[],[]⟩:Fm),(3:Int))) else (if (!(decide (t32=0)))=true then (some ((⟨0,0,[],[]⟩:Fm),51)) else ((nu.f k (tF A B) (nF A B:Int) y20 y31).bind fun t33=>(some (t33,0))))))) K t21 A.f0 A.f1 A.f2 A.f3 B.f0 B.f1 B.f2 B.f3 k 0 []))) v ?_;refine Ev.bind od ?_;exact k1 (iK A B) [] rfl (fun k y31=>((aa4.f k (tF A B) (nF A B:Int) (fM D A B).f2 y31).bind fun t32=>(if (decide (t32=3))=true then (some ((⟨0,0,[],[]⟩:Fm),(3:Int))) else (if (!(decide (t32=0)))=true then (some ((⟨0,0,[],[]⟩:Fm),51)) else ((nu.f k (tF A B) (nF A B:Int) (fM D A B).f2 y31).bind fun t33=>(some (t33,0))))))) v hv
  have r1':Ev (fun k=>aa4.f k (tF A B) (nF A B:Int) (fM D A B).f2 (fM D A B).f3) e:=r1;by_cases g:grF (fM D A B)
  · have z:=r3.2 g
    have rc:Ev (fun k=>nu.f k (tF A B) (nF A B:Int) (fM D A B).f2 (fM D A B).f3) h:=ahq (abS hD a b hf g) sh;refine ⟨(h,0),go _ (Ev.bind r1' (Ev.no (by simp [z]) (Ev.no (ahL z) (Ev.bind rc (Ev.now _))))),fun q=>absurd hal q,fun _=>⟨fun q=>absurd g q,fun _=>⟨h,sh,rfl⟩⟩⟩
  · have z:e=50:=by
      rcases r2 with q | q
      · exact absurd (r3.1 q) g
      · exact q
    refine ⟨(noF,51),go _ (Ev.bind r1' (Ev.no (by simp [z]) (Ev.yes (by simp [z]) (Ev.now _)))),fun q=>absurd hal q,fun _=>⟨fun _=>rfl,fun q=>absurd q g⟩⟩
end Go.Proofs.YtcomnjodjijcmaaGreat.Q
namespace Go.Proofs.YtcomnjodjijcmaaGreat.U
set_option linter.unusedVariables false
set_option linter.unusedSimpArgs false
open Go.RowKit Go.Proofs.YtcomnjodjijcmaaGreatW.dz Go.Proofs.YtcomnjodjijcmaaGreatW.eD M R P Q
variable [Inhabited WT]
theorem SetsTells (p c:Int) (core:List (List Sp)) (odd:List Gn) (ff:aa9 p c core odd) (p' c':Int) (fu:List (List Sp)) (kr:List Gn) (af:aa9 p' c' fu kr):∃ k,afx.f k p c core odd p' c' fu kr=some true:=by
  refine Ev.rounds ?_;unfold afx.f;obtain ⟨na,ab,ah⟩:=abE (p:=p) (c:=c) ff.mf;obtain ⟨nb,ac,ai⟩:=abE (p:=p') (c:=c') af.mf;cases na with
  | false=>exact Ev.bind ab (Ev.yes rfl (Ev.bind l9 (Ev.now _)))
  | true =>
  cases nb with
  | false=>exact Ev.bind ab (Ev.no (by simp) (Ev.bind ac (Ev.yes rfl (Ev.bind l9 (Ev.now _)))))
  | true =>
  have wa:=ah rfl;have wb:=ai rfl;obtain ⟨A,cA,sA⟩:=j5 wa.ok.s;obtain ⟨B,cB,sB⟩:=j5 wb.ok.s;have a:Sml A:=yM (O:=⟨p,c,core,odd⟩) wa sA;have b:Sml B:=yM (O:=⟨p',c',fu,kr⟩) wb sB;have rA:Ev (fun k=>nu.f k p c core odd) A:=ahq (O:=⟨p,c,core,odd⟩) (adi (O:=⟨p,c,core,odd⟩) wa) sA;have rB:Ev (fun k=>nu.f k p' c' fu kr) B:=ahq (O:=⟨p',c',fu,kr⟩) (adi (O:=⟨p',c',fu,kr⟩) wb) sB;have aa:=abR a b;have H:=a.nf.of b.nf aa;obtain ⟨is,f1,f2,f3,f4⟩:=aiY cA cB H;obtain ⟨js,g1,g2,g3,g4⟩:=ah2 rA rB a b;obtain ⟨x,e1,s1⟩:=pE cA cB H (jS qQ a.nf b.nf aa);obtain ⟨y,e2,s2⟩:=yI cA cB H (jS nQ a.nf b.nf aa);obtain ⟨z,e3,s3⟩:=abJ cA cB H (jS vI a.nf b.nf aa);obtain ⟨x',h1,t1⟩:=aic qQ ajb rA rB a b;obtain ⟨y',h2,t2⟩:=aic nQ ajc rA rB a b;obtain ⟨z',h3,t3⟩:=aic vI ajd rA rB a b;obtain rfl:x=x':=aiA qQ a.nf b.nf aa s1 t1;obtain rfl:y=y':=aiA nQ a.nf b.nf aa s2 t2;obtain rfl:z=z':=aiA vI a.nf b.nf aa s3 t3;have fx:=adJ qQ a.nf b.nf aa s1;have fy:=adJ nQ a.nf b.nf aa s2;have fz:=adJ vI a.nf b.nf aa s3;have e12:is.1=js.1:=by rw [Bool.eq_iff_iff,f2,g2]
  have e22:is.2=js.2:=by
    by_cases hf:mG A B
    · have q1:is.2≠51:=fun e=>f4.1 e hf
      have q2:js.2≠51:=fun e=>g4.1 e hf;rcases f3 with e | e
      · rcases g3 with e' | e'
        · rw [e,e']
        · exact absurd e' q2
      · exact absurd e q1
    · rw [f4.2 hf,g4.2 hf]
  have w2:wq (1+1)=2:=iJ (by omega) (by omega);have w3:wq (2+1)=3:=iJ (by omega) (by omega);have w4:wq (3+1)=4:=iJ (by omega) (by omega);have l4:∀ X:Nat→Option Bool,Ev X true→Ev (fun k=>afx.l0 (some false) (X k) p c core odd p' c' fu kr p c core odd p' c' fu kr k 4) true:=fun X hX=>by
    refine Ev.step (fun k=>rfl) ?_;simp only [afx.l0,afx.l0T];exact Ev.no (by simp) (Ev.shift hX)
  have l3:∀ X:Nat→Option Bool,Ev X true→Ev (fun k=>afx.l0 (some false) (X k) p c core odd p' c' fu kr p c core odd p' c' fu kr k 3) true:=fun X hX=>by
    refine Ev.step (fun k=>rfl) ?_;simp only [afx.l0,afx.l0T,w4];exact Ev.yes (by simp) (Ev.bind e1 (Ev.no (by simp) (Ev.yes (by simp) (Ev.bind e3 (Ev.bind h3 (Ev.no (by simp) (Ev.bind (alf fz) (Ev.no (by simp) (l4 (fun k=>X (k+1)) (Ev.shift hX))))))))))
  have l2:∀ X:Nat→Option Bool,Ev X true→Ev (fun k=>afx.l0 (some false) (X k) p c core odd p' c' fu kr p c core odd p' c' fu kr k 2) true:=fun X hX=>by
    refine Ev.step (fun k=>rfl) ?_;simp only [afx.l0,afx.l0T,w3];exact Ev.yes (by simp) (Ev.bind e1 (Ev.yes (by simp) (Ev.bind e2 (Ev.bind h2 (Ev.no (by simp) (Ev.bind (alf fy) (Ev.no (by simp) (l3 (fun k=>X (k+1)) (Ev.shift hX)))))))))
  have l1:∀ X:Nat→Option Bool,Ev X true→Ev (fun k=>afx.l0 (some false) (X k) p c core odd p' c' fu kr p c core odd p' c' fu kr k 1) true:=fun X hX=>by
    refine Ev.step (fun k=>rfl) ?_;simp only [afx.l0,afx.l0T,w2];exact Ev.yes (by simp) (Ev.bind e1 (Ev.no (by simp) (Ev.no (by simp) (Ev.bind h1 (Ev.no (by simp) (Ev.bind (alf fx) (Ev.no (by simp) (l2 (fun k=>X (k+1)) (Ev.shift hX)))))))))
  refine Ev.bind ab (Ev.no (by simp) (Ev.bind ac (Ev.no (by simp) (Ev.bind (ah1 wa.ok.s) (Ev.bind (ah1 wb.ok.s) (Ev.bind f1 (Ev.bind g1 (Ev.no (by rw [e12];simp) (Ev.no (by simp [e22]) ?_)))))))));refine l1 _ ?_;exact Ev.bind (tT wa.ok.s) (Ev.yes rfl (Ev.bind (tT wb.ok.s) (Ev.yes rfl (Ev.bind l9 (Ev.now _)))))
end Go.Proofs.YtcomnjodjijcmaaGreat.U
namespace Go.Proofs.YtcomnjodjijcmaaGreat.setsTells
open Go.ChangeShapes Go.WideShapes Go.ChangeAt Go.RowKit
open Go.ChangeMaps (open_string shut_string)
set_option linter.unusedVariables false
theorem own:ownKnob Tryz.prog.godebug=none:=by kernel_rfl
theorem laidOut:laidOutB Tryz.prog=true:=by kernel_rfl
set_option maxRecDepth 100000 in
theorem lifted (os:Os) (started:os.Started) (H:Type) (enc:TypeId × Value→H) :
    ReturnsInHanded {} Tryz.checked os 4 .any (Rows.setsTellsSpec.pre6 enc Tryz.prog Tryz.f4 Rows.setsTellsRow.domain false) (Rows.setsTellsSpec.post enc Tryz.prog Tryz.f4 false true false false):=by
  refine returnsInHanded_of_change_sized (C:=Tryz.checked) own started (by kernel_rfl) Tryz.func4
    (ChangeSpec.witness6 (enc:=enc) (C:=Tryz.checked) false ⟨#[],#[.agg #[.int .i64 0,.int .i64 0,.slice none 0 0,.slice none 0 0],.agg #[.int .i64 0,.int .i64 0,.slice none 0 0,.slice none 0 0]],[]⟩ 8 (by kernel_rfl) (by kernel_rfl) (by kernel_rfl) (by kernel_rfl)) ?_
  intro W base args ds gs before hval0 hW hcnd hsz0 _;have hval:∀ (j:Nat) t v,Tryz.f4.params[j]? = some t→args[j]? = some v→Value.okWide Tryz.prog W .any base t v:=hval0;have hW':=hW;obtain ⟨p,q,ao,hV,rfl,hfz,hnd⟩:=hW;have hA:DataW.TrodAll enc Tryz.prog W 0 (fun _=>true) true Tryz.f4.params.toList args.toList ds p:=ao;rw [Tryz.params4] at hA hval;obtain ⟨v0,aF,d0,ds0,p0,q0,hargs,rfl,rfl,h0,r0⟩:=trodAll_cons hA;obtain ⟨v1,vs1,d1,ds1,p1,q1,rfl,rfl,rfl,h1,r1⟩:=trodAll_cons r0;obtain ⟨rfl,rfl,rfl⟩:=trodAll_nil r1;obtain rfl:args=#[v0,v1]:=by cases args;simp_all
  obtain ⟨rfl,rfl⟩:=trodVars_none hV;have k0:=h0;have aq:∀ x∈p0,x.block<W.heap.size:=by obtain ⟨m,hm⟩:=k0;exact DataW.trod_lt m _ _ _ hm
  obtain ⟨aa,ab,aG,aH,ac,aI,aJ,af,rfl,au,aw,ax,ay,az⟩:=P.vC (hval 0 25 v0 rfl rfl) h0;have k1:=h1;have aA:∀ x∈p1,x.block<W.heap.size:=by obtain ⟨m,hm⟩:=k1;exact DataW.trod_lt m _ _ _ hm
  obtain ⟨ah,ai,aK,aL,aj,aM,aN,ak,rfl,aB,fx1,aC,aD,aE⟩:=P.vC (hval 1 25 v1 rfl rfl) h1;clear ao hval0 hsz0;obtain ⟨kk,hP⟩:=U.SetsTells aa ab ac af az ah ai aj ak aE;refine (M.aa6 (R.afx.ok kk) (W:=W) (a:=((⟨aa,ab,ac,af⟩:P.S25),(⟨ah,ai,aj,ak⟩:P.S25),())) (vs:=[.agg #[.int .i64 aa,.int .i64 ab,.slice _ ac.length _,.slice _ af.length _],.agg #[.int .i64 ah,.int .i64 ai,.slice _ aj.length _,.slice _ ak.length _]]) ⟨⟨_,M.fm0 _ _ au aw ax ay,rfl⟩,⟨⟨_,M.fm0 _ _ aB fx1 aC aD,rfl⟩,trivial⟩⟩ hP).mono fun e W' ⟨he,ap⟩ => ?_;have am:=ap;subst he;exact ⟨_,rfl,_,_,_,[],_,[],hW',trodAll_mk1 (shut_bool Tryz.underlying4 _),(trodAll_cons_mk (Below.trod laidOut (by kernel_rfl) (of_decide_eq_true (by kernel_rfl)) k0 am aq) (trodAll_cons_mk (Below.trod laidOut (by kernel_rfl) (of_decide_eq_true (by kernel_rfl)) k1 am aA) trodAll_mk0)),rfl,am.frame _,fun h=>by cases h⟩
theorem over:Rows.setsTellsRow.holds Tryz.pinned (OpenSpec.ofChange Rows.setsTellsSpec) :=
  OpenClaim.holds_of_wide 4 Tryz.f4 rfl rfl rfl rfl rfl rfl rfl ⟨rfl,rfl,rfl,rfl,rfl⟩ rfl rfl rfl rfl rfl (by kernel_rfl) Tryz.func4 (by kernel_rfl)
    (of_decide_eq_true (by kernel_rfl)) (by unfold Func.isWrapper;first | (rw [if_pos (by decide +kernel)];kernel_rfl) | (rw [if_neg (by decide +kernel)];exact ⟨rfl,rfl⟩))
    (fun os started H enc _=>lifted os started H enc)
theorem proved:Rows.SetsTellsSaid:=over
#print axioms proved
end Go.Proofs.YtcomnjodjijcmaaGreat.setsTells
namespace Go.Proofs.YtcomnjodjijcmaaGreat
theorem setsTells_holds:Rows.SetsTellsSaid:=setsTells.proved
end Go.Proofs.YtcomnjodjijcmaaGreat

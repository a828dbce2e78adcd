/- Lemmas for laws of chapter 7: what the functions that they reach compute. No condition of its own. -/
import Derived.Test.YtmbmalkpmanaaaaGreatYH15
import Derived.Test.YtmbmalkpmanaaaaGreatYH11
import Derived.Test.YtmbmalkpmanaaaaGreatYH24
import Derived.Test.YtmbmalkpmanaaaaGreatYH16
import Derived.Test.YtmbmalkpmanaaaaGreatYH6
import Derived.Test.YtmbmalkpmanaaaaGreatYH14
import Derived.Test.YtmbmalkpmanaaaaGreatYH5
import Derived.Test.YtmbmalkpmanaaaaGreatYH4
import Derived.Test.YtmbmalkpmanaaaaGreatYH7
import Derived.Test.YtmbmalkpmanaaaaGreatYH8
namespace Go.Proofs.YtmbmalkpmanaaaaGreat.P
set_option linter.unusedVariables false
set_option linter.unusedSimpArgs false
open Go.RowKit Go.Proofs.YtmbmalkpmanaaaaGreatW.iD Go.Proofs.YtmbmalkpmanaaaaGreatW.jw
variable {p c:Int} {core:List (List Sp)} {odd:List Gn}
structure MF (core:List (List Sp)) (odd:List Gn):Prop where
  mc:∀ l∈core,l.length≤9223372036854775807
  mo:∀ g∈odd,g.f1.length≤9223372036854775807
theorem ace (m:MF core odd) (hl:core.length≤6000) (hlo:odd.length≤6000):∃ b,Ev (fun k=>iV.f k p c core odd) b∧(b=true→SF p c core odd):=by
  have k1:∀ (rest pre:List Gn),odd=pre++rest→(∀ g∈pre,SL (-1099511627776) 1099511627776 g.f1∧inR g.f0)→pre.Pairwise (fun a b=>a.f0<b.f0) →
      ∃ b,Ev (fun k=>iV.l1 k odd (odd.length:Int) (pre.length:Int) p c core odd) b∧(b=true→(∀ g∈odd,SL (-1099511627776) 1099511627776 g.f1∧inR g.f0)∧odd.Pairwise (fun a b=>a.f0<b.f0)):=by
    intro rest;induction rest with
    | nil =>
      intro pre hp h1 h2;refine ⟨true,Ev.step (f:=fun _=>some true) (fun k => ?_) (Ev.now _),fun _ => ?_⟩
      · rw [iV.l1,if_neg (by rw [hp];simp)]
      · rw [List.append_nil] at hp;subst hp;exact ⟨h1,h2⟩
    | cons g r ih =>
      intro pre hp h1 h2;have hlen:pre.length+1≤odd.length:=by rw [hp];simp
      have hrd:gW odd (pre.length:Int)=g:=by rw [hp];simp [gW]
      have c1:(pre.length:Int)<(odd.length:Int):=by omega
      have hgm:g∈odd:=by rw [hp];simp
      have hr:=uz g.f1 (m.mo g hgm);by_cases hs:slB (-1099511627776) g.f1=true
      · by_cases hi:inR g.f0
        · have hw:wrap64 ((pre.length:Int)+1)=((pre++[g]).length:Int):=by rw [jl (by omega) (by omega)];simp
          by_cases ho:∀ a∈pre,a.f0<g.f0
          · obtain ⟨b,b1,b2⟩:=ih (pre++[g]) (by rw [hp];simp) (fun a ha=>by
              rcases List.mem_append.1 ha with ha | ha
              · exact h1 a ha
              · simp at ha;subst ha;exact ⟨uU.1 hs,hi⟩) (List.pairwise_append.2 ⟨h2,by simp,fun a ha b hb=>by simp at hb;subst hb;exact ho a ha⟩)
            refine ⟨b,?_,b2⟩;refine Ev.step (f:=fun k=>(iO.f k g.f1).bind fun t=>if t=true then (if (pre.length:Int)>0 then (if 0≤wrap64 ((pre.length:Int) - 1) then (if wrap64 ((pre.length:Int) - 1)<(odd.length:Int) then (if g.f0≤(gW odd (wrap64 ((pre.length:Int) - 1))).f0 then some false else iV.l1 k odd (odd.length:Int) (wrap64 ((pre.length:Int)+1)) p c core odd) else none) else none) else iV.l1 k odd (odd.length:Int) (wrap64 ((pre.length:Int)+1)) p c core odd) else some false) (fun k => ?_) ?_
            · rw [iV.l1,if_pos c1,if_pos (by omega),if_pos c1,hrd,nP];simp [hi]
            · refine Ev.bind hr (Ev.congr (fun k => ?_) b1)
              rw [if_pos hs,hw];by_cases hz:(pre.length:Int)>0
              · have hw2:wrap64 ((pre.length:Int) - 1)=((pre.length - 1:Nat):Int):=by rw [jl (by omega) (by omega)];omega
                have hpl:pre.length - 1<pre.length:=by omega
                have aa:gW odd ((pre.length - 1:Nat):Int)=pre[pre.length - 1]:=by
                  rw [rdG odd (pre.length - 1) (by omega)];simp only [hp];rw [List.getElem_append_left hpl]
                have:=ho _ (List.getElem_mem hpl);rw [if_pos hz,hw2,if_pos (by omega),if_pos (by omega),aa,if_neg (by omega)]
              · rw [if_neg hz]
          · refine ⟨false,?_,fun e=>by cases e⟩
            have hz:0<pre.length:=by
              cases pre with
              | nil=>exact absurd (by simp) ho
              | cons a r=>simp
            have hpl:pre.length - 1<pre.length:=by omega
            have hbad:g.f0≤pre[pre.length - 1].f0:=by
              refine Classical.byContradiction fun hx=>ho fun a ha => ?_;obtain ⟨j,hj,rfl⟩:=List.getElem_of_mem ha;rcases Nat.lt_or_ge j (pre.length - 1) with q | q
              · have:=List.pairwise_iff_getElem.1 h2 j (pre.length - 1) hj hpl q;omega
              · have:j=pre.length - 1:=by omega
                subst this;omega
            refine Ev.step (f:=fun k=>(iO.f k g.f1).bind fun t=>if t=true then (some false) else some false) (fun k => ?_) ?_
            · have hw2:wrap64 ((pre.length:Int) - 1)=((pre.length - 1:Nat):Int):=by rw [jl (by omega) (by omega)];omega
              have aa:gW odd ((pre.length - 1:Nat):Int)=pre[pre.length - 1]:=by
                rw [rdG odd (pre.length - 1) (by omega)];simp only [hp];rw [List.getElem_append_left hpl]
              rw [iV.l1,if_pos c1,if_pos (by omega),if_pos c1,hrd,nP,hw2,aa];have q1:(pre.length:Int)>0:=by omega
              have q2:(0:Int)≤((pre.length - 1:Nat):Int):=by omega
              have q3:((pre.length - 1:Nat):Int)<(odd.length:Int):=by omega
              simp only [Option.bind_some,hi,decide_true,if_true,if_pos q1,if_pos q2,if_pos q3,if_pos hbad]
            · exact Ev.bind hr (Ev.congr (fun k=>by simp) (Ev.now _))
        · refine ⟨false,?_,fun e=>by cases e⟩
          refine Ev.step (f:=fun k=>(iO.f k g.f1).bind fun t=>if t=true then (some false) else some false) (fun k => ?_) (Ev.bind hr (Ev.congr (fun k=>by simp) (Ev.now _)));rw [iV.l1,if_pos c1,if_pos (by omega),if_pos c1,hrd,nP];simp [hi]
      · refine ⟨false,?_,fun e=>by cases e⟩
        refine Ev.step (fun k=>by rw [iV.l1,if_pos c1,if_pos (by omega),if_pos c1,hrd]) (Ev.bind hr (Ev.congr (fun k=>by rw [if_neg hs]) (Ev.now _)))
  have k0:∀ (rest pre:List (List Sp)),core=pre++rest→(∀ l∈pre,SL (-1099511627776) 1099511627776 l) →
      ∃ b,Ev (fun k=>iV.l0 k core (core.length:Int) (pre.length:Int) p c core odd) b∧(b=true→(∀ l∈core,SL (-1099511627776) 1099511627776 l)∧(∀ g∈odd,SL (-1099511627776) 1099511627776 g.f1∧inR g.f0)∧odd.Pairwise (fun a b=>a.f0<b.f0)):=by
    intro rest;induction rest with
    | nil =>
      intro pre hp h1;obtain ⟨b,b1,b2⟩:=k1 odd [] rfl (by simp) List.Pairwise.nil;refine ⟨b,Ev.step (fun k => ?_) b1,fun e => ?_⟩
      · rw [iV.l0,if_neg (by rw [hp];simp)];rfl
      · rw [List.append_nil] at hp;subst hp;exact ⟨h1,b2 e⟩
    | cons l r ih =>
      intro pre hp h1;have hlen:pre.length+1≤core.length:=by rw [hp];simp
      have hrd:jr core (pre.length:Int)=l:=by rw [hp];simp [jr]
      have c1:(pre.length:Int)<(core.length:Int):=by omega
      have hr:=uz l (m.mc l (by rw [hp];simp));by_cases hs:slB (-1099511627776) l=true
      · obtain ⟨b,b1,b2⟩:=ih (pre++[l]) (by rw [hp];simp) (fun a ha=>by
          rcases List.mem_append.1 ha with ha | ha
          · exact h1 a ha
          · simp at ha;subst ha;exact uU.1 hs)
        refine ⟨b,?_,b2⟩;have hw:wrap64 ((pre.length:Int)+1)=((pre++[l]).length:Int):=by rw [jl (by omega) (by omega)];simp
        exact Ev.step (fun k=>by rw [iV.l0,if_pos c1,if_pos (by omega),if_pos c1,hrd]) (Ev.bind hr (Ev.congr (fun k=>by rw [if_pos hs,hw]) b1))
      · refine ⟨false,?_,fun e=>by cases e⟩
        exact Ev.step (fun k=>by rw [iV.l0,if_pos c1,if_pos (by omega),if_pos c1,hrd]) (Ev.bind hr (Ev.congr (fun k=>by rw [if_neg hs]) (Ev.now _)))
  have bad:∃ b,Ev (fun k=>iV.j0 k true p c core odd) b∧(b=true→SF p c core odd) :=
    ⟨false,Ev.step (f:=fun _=>some false) (fun k=>by rw [iV.j0,if_pos rfl]) (Ev.now _),fun e=>by cases e⟩
  unfold iV.f;by_cases hc:c=(core.length:Int)
  · by_cases hz:((c==0) != (p==0))=true
    · obtain ⟨b,b1,b2⟩:=bad
      exact ⟨b,Ev.congr (fun k=>by rw [if_pos hc,if_pos hz]) b1,b2⟩
    · by_cases hp0:p<0
      · obtain ⟨b,b1,b2⟩:=bad
        exact ⟨b,Ev.congr (fun k=>by rw [if_pos hc,if_neg hz,if_pos hp0]) b1,b2⟩
      · by_cases hp1:p>1099511627776
        · obtain ⟨b,b1,b2⟩:=bad
          exact ⟨b,Ev.congr (fun k=>by rw [if_pos hc,if_neg hz,if_neg hp0,decide_eq_true hp1]) b1,b2⟩
        · obtain ⟨b,b1,b2⟩:=k0 core [] rfl (by simp)
          refine ⟨b,Ev.congr (fun k=>by rw [if_pos hc,if_neg hz,if_neg hp0,decide_eq_false hp1]) (Ev.step (fun k => ?_) b1),fun e => ?_⟩
          · rw [iV.j0,if_neg (by simp)];rfl
          · obtain ⟨x1,x2,x3⟩:=b2 e
            refine ⟨hc,by omega,by omega,?_,x1,fun g hg=>(x2 g hg).1,fun g hg=>(x2 g hg).2,x3,hl,hlo⟩;have hz':(c==0)=(p==0):=by simpa using hz
            constructor
            · intro e0;rw [e0] at hz';simpa using hz'.symm
            · intro e0;rw [e0] at hz';simpa using hz'
  · obtain ⟨b,b1,b2⟩:=bad
    exact ⟨b,Ev.congr (fun k=>by rw [if_neg hc]) b1,b2⟩
end Go.Proofs.YtmbmalkpmanaaaaGreat.P
namespace Go.Proofs.YtmbmalkpmanaaaaGreat.P
set_option linter.unusedVariables false
set_option linter.unusedSimpArgs false
open Go.RowKit Go.Proofs.YtmbmalkpmanaaaaGreatW.iD Go.Proofs.YtmbmalkpmanaaaaGreatW.jw
variable {p c:Int} {core:List (List Sp)} {odd:List Gn}
def neL (l:List (List Sp)):List (List Sp):=l.filter (fun x=>decide (x≠[]))
theorem yQ {l:List (List Sp)} {x:List Sp}:x∈neL l↔x∈l∧x≠[]:=by simp [neL]
theorem acf (l:List (List Sp)) (x:List Sp):neL (l++[x])=if x=[] then neL l else neL l++[x]:=by
  unfold neL;rw [List.filter_append];by_cases h:x=[]
  · simp [h]
  · simp [h]
theorem acV (x:List Sp) (hx:x≠[]) (hl:x.length≤4611686018427387903):wrap64 ((x.length:Int) - 1)=(x.length:Int) - 1∧0≤(x.length:Int) - 1∧(gN x ((x.length:Int) - 1)).f1=oh x:=by
  rcases List.eq_nil_or_concat x with rfl | ⟨o,z,rfl⟩
  · exact absurd rfl hx
  · rw [List.concat_eq_append] at *
    have e:((o++[z]).length:Int) - 1=(o.length:Int):=by simp
    refine ⟨jl (by simp only [List.length_append,List.length_singleton];omega) (by omega),by rw [e];omega,?_⟩;rw [e,abj];have:=pW o [] z;rw [this]
theorem abp (x:List Sp) (hx:x≠[]):0<x.length∧(gN x 0).f0=oq x:=by
  cases x with
  | nil=>exact absurd rfl hx
  | cons s r=>exact ⟨by simp,rfl⟩
theorem acg (h:SF p c core odd):∃ b,Ev (fun k=>jO.f k p c core odd) b∧(b=true→TF p core):=by
  have hl:=h.hl;have hp0:=h.hp0;have hp1:=h.hp1;obtain ⟨ne,hne⟩:∃ ne,neL core=ne:=⟨_,rfl⟩;have hmem:∀ x∈ne,x∈core∧x≠[]:=fun x hx=>yQ.1 (by rw [hne];exact hx);have hnl:ne.length≤6000:=by rw [← hne];exact Nat.le_trans (List.length_filter_le _ _) hl
  obtain ⟨g,hg⟩:∃ g:Nat→List Sp,g=fun j=>ne.getD j []:=⟨_,rfl⟩;have hgm:∀ j,j<ne.length→g j∈core∧g j≠[]:=fun j hj=>by
    rw [hg];simp only;rw [List.getD_eq_getElem?_getD,List.getElem?_eq_getElem hj];exact hmem _ (List.getElem_mem hj)
  have hgr:∀ j:Nat,jr ne (j:Int)=g j:=fun j=>by rw [hg];simp [jr]
  obtain ⟨Q,hQ⟩:∃ Q:Nat→Prop,Q=fun j=>oh (g j)<oq (g ((j+1) % ne.length))+(if j+1=ne.length then p else 0):=⟨_,rfl⟩;have k1:∀ (d n:Nat),ne.length - n=d→n≤ne.length→(∀ j,j<n→Q j) →
      ∃ b,Ev (fun k=>jO.l1 k ne ne (ne.length:Int) (n:Int) p c core odd) b∧(b=true→∀ j,j<ne.length→Q j):=by
    intro d;induction d with
    | zero =>
      intro n hd hn h1;refine ⟨true,Ev.step (f:=fun _=>some true) (fun k => ?_) (Ev.now _),fun _ j hj=>h1 j (by omega)⟩;rw [jO.l1,if_neg (by omega)]
    | succ d ih =>
      intro n hd hn h1;have hlt:n<ne.length:=by omega
      obtain ⟨m,hm0⟩:∃ m,(n+1) % ne.length=m:=⟨_,rfl⟩;have hm:m<ne.length:=by rw [← hm0];exact Nat.mod_lt _ (by omega)
      have q1:(n:Int)<(ne.length:Int):=by clear hm0;omega
      have q2:(0:Int)≤(n:Int):=by clear hm0;omega
      have q3:¬ (ne.length:Int)=0:=by clear hm0;omega
      have q4:(0:Int)≤(m:Int):=by clear hm0;omega
      have q5:(m:Int)<(ne.length:Int):=by clear hm0;omega
      obtain ⟨x,hx0⟩:∃ x,g n=x:=⟨_,rfl⟩;obtain ⟨y,hy0⟩:∃ y,g m=y:=⟨_,rfl⟩;have hx:=hgm n hlt;have hy:=hgm m hm;rw [hx0] at hx;rw [hy0] at hy;have af:=h.hcore _ hx.1;have ag:=h.hcore _ hy.1;have ah:=ag.ends hy.2;have main:∀ (X:Int),X=(if n+1=ne.length then p else 0)→0≤X→X≤p→∃ b,Ev (fun k=>if (oh x)≥(wrap64 (oq y+X)) then some false else jO.l1 k ne ne (ne.length:Int) (((n+1:Nat):Int)) p c core odd) b∧(b=true→∀ j,j<ne.length→Q j):=by
        intro X hX hX0 hX1;have hw:wrap64 (oq y+X)=oq y+X:=jl (by omega) (by omega);rw [hw];by_cases hb:oh x≥oq y+X
        · exact ⟨false,Ev.congr (fun k=>by rw [if_pos hb]) (Ev.now _),fun e=>by cases e⟩
        · obtain ⟨b,b1,b2⟩:=ih (n+1) (by omega) (by omega) (fun j hjn=>by
            rcases Nat.lt_or_ge j n with q | q
            · exact h1 j q
            · have:j=n:=by omega
              subst this;rw [hQ];simp only;rw [hm0,hx0,hy0,← hX];omega)
          exact ⟨b,Ev.congr (fun k=>by rw [if_neg hb]) b1,b2⟩
      obtain ⟨l1,l2,l3⟩:=acV _ hx.2 af.yP;obtain ⟨f1,f2⟩:=abp _ hy.2;have e0:wrap64 ((n:Int)+1)=((n+1:Nat):Int):=by clear l1 l2 l3 f2;rw [jl (by omega) (by omega)];simp
      have e1:Int.tmod ((n+1:Nat):Int) (ne.length:Int)=(m:Int):=by
        have e2:(((n+1) % ne.length:Nat):Int)=((n+1:Nat):Int) % (ne.length:Int):=Int.natCast_emod _ _;rw [hm0] at e2;exact (Int.tmod_eq_emod_of_nonneg (Int.natCast_nonneg _)).trans e2.symm
      have r1:jr ne (n:Int)=x:=by rw [hgr,hx0]
      have r2:jr ne (m:Int)=y:=by rw [hgr,hy0]
      have q7:((x.length:Int) - 1)<(x.length:Int):=Int.sub_lt_self _ (by decide);have q8:(0:Int)<(y.length:Int):=Int.ofNat_lt.mpr f1;by_cases hlast:n+1=ne.length
      · have q6:((n+1:Nat):Int)=(ne.length:Int):=by rw [hlast]
        obtain ⟨b,b1,b2⟩:=main p (by rw [if_pos hlast]) hp0 (Int.le_refl _);refine ⟨b,Ev.step (fun k => ?_) b1,b2⟩;rw [jO.l1,if_pos q1,if_pos q2,if_pos q1,if_neg q3,e0,e1,if_pos q4,if_pos q5,if_pos q6,r1,r2,l1,if_pos l2,if_pos q7,if_pos q8,l3,f2]
      · obtain ⟨b,b1,b2⟩:=main 0 (by rw [if_neg hlast]) (Int.le_refl _) hp0
        refine ⟨b,Ev.step (fun k => ?_) b1,b2⟩;have q6:¬ ((n+1:Nat):Int)=(ne.length:Int):=fun e=>hlast (Int.ofNat.inj e);rw [jO.l1,if_pos q1,if_pos q2,if_pos q1,if_neg q3,e0,e1,if_pos q4,if_pos q5,if_neg q6,r1,r2,l1,if_pos l2,if_pos q7,if_pos q8,l3,f2]
  have fin:(∀ j,j<ne.length→Q j)→TF p core:=by
    intro hj;rw [hQ] at hj;simp only at hj;have aa:∀ j,j<ne.length→oq (g j)≤oh (g j):=fun j hj2=>((h.hcore _ (hgm j hj2).1).ends (hgm j hj2).2).2.1;have ab:∀ j,j+1<ne.length→oh (g j)<oq (g (j+1)):=fun j hj1=>by
      have:=hj j (by omega);rw [Nat.mod_eq_of_lt hj1,if_neg (by omega)] at this;omega
    have ac:∀ (d i j:Nat),j<ne.length→j - i=d→i<j→oh (g i)<oq (g j):=by
      intro d;induction d with
      | zero=>intro i j hj2 hd hij;omega
      | succ d ih =>
        intro i j hj2 hd hij;by_cases ae:i+1=j
        · subst ae;exact ab i hj2
        · have a1:=ab i (by omega)
          have a2:=ih (i+1) j hj2 (by omega) (by omega);have a3:=aa (i+1) (by omega);omega
    have hmono:∀ i j,j<ne.length→i≤j→oq (g i)≤oq (g j)∧oh (g i)≤oh (g j):=by
      intro i j hj2 hij;rcases Nat.lt_or_ge i j with q | q
      · have a1:=ac _ i j hj2 rfl q
        have a2:=aa i (by omega);have a3:=aa j hj2;omega
      · have:i=j:=by omega
        subst this;omega
    have hget:∀ j (hj2:j<ne.length),ne[j]=g j:=fun j hj2=>by rw [hg];simp only;rw [List.getD_eq_getElem?_getD,List.getElem?_eq_getElem hj2];rfl
    constructor
    · have hpw:ne.Pairwise (fun a b=>oh a<oq b):=List.pairwise_iff_getElem.2 (fun i j hi hj2 hij=>by rw [hget i hi,hget j hj2];exact ac _ i j hj2 rfl hij)
      rw [← hne] at hpw;unfold neL at hpw;rw [List.pairwise_filter] at hpw;exact hpw.imp (fun hx ha hb=>hx (by simpa using ha) (by simpa using hb))
    · intro a ha b hb hna hnb
      obtain ⟨i,hi,rfl⟩:=List.getElem_of_mem (show a∈ne by rw [← hne];exact yQ.2 ⟨ha,hna⟩);obtain ⟨j,hj2,rfl⟩:=List.getElem_of_mem (show b∈ne by rw [← hne];exact yQ.2 ⟨hb,hnb⟩);rw [hget i hi,hget j hj2];have hz:=hj (ne.length - 1) (by omega);have e:(ne.length - 1+1) % ne.length=0:=by rw [Nat.sub_add_cancel (by omega)];exact Nat.mod_self _
      rw [e,if_pos (by omega)] at hz;have a1:=(hmono i (ne.length - 1) (by omega) (by omega)).2;have a2:=(hmono 0 j hj2 (by omega)).1;omega
  have k0:∀ (rest pre:List (List Sp)),core=pre++rest→∃ b,Ev (fun k=>jO.l0 k (neL pre) core (core.length:Int) (pre.length:Int) p c core odd) b∧(b=true→TF p core):=by
    intro rest;induction rest with
    | nil =>
      intro pre hp;obtain ⟨b,b1,b2⟩:=k1 _ 0 rfl (by omega) (fun j hj=>by omega);rw [List.append_nil] at hp;refine ⟨b,Ev.step (fun k => ?_) b1,fun e=>fin (b2 e)⟩;rw [jO.l0,if_neg (by rw [hp];omega),← hp,hne];rfl
    | cons l r ih =>
      intro pre hp;have hlen:pre.length+1≤core.length:=by rw [hp];simp
      have hrd:jr core (pre.length:Int)=l:=by rw [hp];simp [jr]
      have c1:(pre.length:Int)<(core.length:Int):=by omega
      have hw:wrap64 ((pre.length:Int)+1)=((pre++[l]).length:Int):=by rw [jl (by omega) (by omega)];simp
      obtain ⟨b,b1,b2⟩:=ih (pre++[l]) (by rw [hp];simp);refine ⟨b,Ev.step (fun k => ?_) b1,b2⟩;have hnp:(neL pre).length≤pre.length:=List.length_filter_le _ _;rw [jO.l0,if_pos c1,if_pos (by omega),if_pos c1,hrd,hw,acf];by_cases hz:l=[]
      · rw [if_pos hz,hz];simp
      · have:0<l.length:=List.length_pos_iff.2 hz
        rw [if_neg hz,if_pos (by omega),if_pos (by omega)]
  exact k0 core [] rfl
theorem abq (h:SF p c core odd) (i:Int) (hi:inR i):∃ b,Ev (fun k=>jL.f k p c core odd i) b∧(b=true→(mZ p c core odd i).2=0 ∧
    (∀ k,i<k→inR k→fs c core odd k≠[]→gap c core odd i k→(mZ p c core odd k).2=0∧nI (mZ p c core odd i).1 (mZ p c core odd k).1=true) ∧
    (∀ k,k<i→inR k→fs c core odd k≠[]→gap c core odd k i→(mZ p c core odd k).2=0∧nI (mZ p c core odd k).1 (mZ p c core odd i).1=true)):=by
  have hi':=hi;unfold inR at hi';obtain ⟨lo,lo1,lo2⟩:=uY h i (by omega);obtain ⟨up,ap,ao⟩:=sN h i (by omega);have hlen:∀ j,(mZ p c core odd j).1.length≤4611686018427387904:=by
    intro j;have hs:=(h.vG j).yP;unfold mZ;split
    · split
      · simp
      · unfold qI;split
        · simp;omega
        · simp
    · simp
  have hah:∀ j m,jk.f (mZ p c core odd j).1 (mZ p c core odd m).1=some (nI (mZ p c core odd j).1 (mZ p c core odd m).1):=fun j m=>yM _ _ (hlen j);have aa:∀ m:List Sp,jk.f ([]:List Sp) m=some true:=fun m=>by rw [yM _ _ (by simp)];simp [nI]
  have ac:∀ j,jk.f (mZ p c core odd j).1 ([]:List Sp)=some true:=fun j=>by rw [yM _ _ (hlen j)];congr 1;unfold nI;cases (mZ p c core odd j).1.getLast? <;> rfl
  have hup:up.2=true→∀ k,i<k→inR k→fs c core odd k≠[]→gap c core odd i k→k=up.1:=by
    intro e k h1 h2 h3 h4;obtain ⟨a1,a2,a3,a4⟩:=ao.1 e;unfold inR at h2 a2;rcases Int.lt_trichotomy k up.1 with g | g | g
    · exact absurd (a4 k (by omega) g) h3
    · exact g
    · exact absurd (h4 up.1 (by omega) g) a3
  have ae:up.2=false→∀ k,i<k→inR k→fs c core odd k≠[]→False:=by
    intro e k h1 h2 h3;obtain ⟨_,a4⟩:=ao.2 e;have h2':=h2;unfold inR at h2';exact h3 (a4 k (by omega) h2)
  have hdn:lo.2=true→∀ k,k<i→inR k→fs c core odd k≠[]→gap c core odd k i→k=lo.1:=by
    intro e k h1 h2 h3 h4;obtain ⟨a1,a2,a3,a4⟩:=lo2.1 e;unfold inR at h2 a2;rcases Int.lt_trichotomy k lo.1 with g | g | g
    · exact absurd (h4 lo.1 g (by omega)) a3
    · exact g
    · exact absurd (a4 k (by omega) g) h3
  have af:lo.2=false→∀ k,k<i→inR k→fs c core odd k≠[]→False:=by
    intro e k h1 h2 h3;obtain ⟨_,a4⟩:=lo2.2 e;have h2':=h2;unfold inR at h2';exact h3 (a4 k (by omega) h2)
  have wrong:∀ {P:Prop},false=true→P:=fun e=>by cases e
  have S0:(mZ p c core odd i).2=0→∀ {b:Bool},Ev (fun k=>if lo.2=true then ((kC.f k p c core odd lo.1).bind fun ab=>(if ab.2=0 then (jL.j0 k (mZ p c core odd i).1 up.1 up.2 ab.1 ([]:List Sp) p c core odd) else (some false))) else (jL.j0 k (mZ p c core odd i).1 up.1 up.2 ([]:List Sp) ([]:List Sp) p c core odd)) b→Ev (fun k=>jL.f k p c core odd i) b:=by
    intro h0 b hb;unfold jL.f;refine Ev.bind (rF h i) ?_;refine Ev.congr (fun k=>by rw [if_pos h0]) ?_;refine Ev.bind lo1 ?_;exact Ev.bind ap hb
  have S1:(mZ p c core odd i).2=0→lo.2=true→(mZ p c core odd lo.1).2=0→∀ {b:Bool},Ev (fun k=>jL.j0 k (mZ p c core odd i).1 up.1 up.2 (mZ p c core odd lo.1).1 ([]:List Sp) p c core odd) b→Ev (fun k=>jL.f k p c core odd i) b:=by
    intro h0 hl h1 b hb;refine S0 h0 ?_;refine Ev.congr (fun k=>by rw [if_pos hl]) ?_;refine Ev.bind (rF h lo.1) ?_;exact Ev.congr (fun k=>by rw [if_pos h1]) hb
  have S2:(mZ p c core odd i).2=0→lo.2≠true→∀ {b:Bool},Ev (fun k=>jL.j0 k (mZ p c core odd i).1 up.1 up.2 ([]:List Sp) ([]:List Sp) p c core odd) b→Ev (fun k=>jL.f k p c core odd i) b:=by
    intro h0 hl b hb;exact S0 h0 (Ev.congr (fun k=>by rw [if_neg hl]) hb)
  have J1:up.2=true→(mZ p c core odd up.1).2=0→∀ (l:List Sp) {b:Bool},((jk.f l (mZ p c core odd i).1).bind fun ag=>(if ag=true then ((jk.f (mZ p c core odd i).1 (mZ p c core odd up.1).1).bind fun ah=>(if ah=true then ((jk.f l (mZ p c core odd up.1).1).bind fun ai=>(some ai)) else (some false))) else (some false)))=some b→Ev (fun k=>jL.j0 k (mZ p c core odd i).1 up.1 up.2 l ([]:List Sp) p c core odd) b:=by
    intro hu h2 l b hb;refine Ev.step (fun k=>by rw [jL.j0,if_pos hu]) ?_;refine Ev.bind (rF h up.1) ?_;refine Ev.congr (fun k=>by rw [if_pos h2]) ?_;rw [hb];exact Ev.now _
  have J2:up.2=true→¬ (mZ p c core odd up.1).2=0→∀ (l:List Sp),Ev (fun k=>jL.j0 k (mZ p c core odd i).1 up.1 up.2 l ([]:List Sp) p c core odd) false:=by
    intro hu h2 l;refine Ev.step (fun k=>by rw [jL.j0,if_pos hu]) ?_;refine Ev.bind (rF h up.1) ?_;exact Ev.congr (fun k=>by rw [if_neg h2]) (Ev.now _)
  have J3:¬ up.2=true→∀ (l:List Sp) {b:Bool},((jk.f l (mZ p c core odd i).1).bind fun aj=>(if aj=true then ((jk.f (mZ p c core odd i).1 ([]:List Sp)).bind fun ak=>(if ak=true then ((jk.f l ([]:List Sp)).bind fun al=>(some al)) else (some false))) else (some false)))=some b→Ev (fun k=>jL.j0 k (mZ p c core odd i).1 up.1 up.2 l ([]:List Sp) p c core odd) b:=by
    intro hu l b hb;refine Ev.step (f:=fun _=>some b) (fun k => ?_) (Ev.now _);rw [jL.j0,if_neg hu,hb]
  by_cases h0:(mZ p c core odd i).2=0
  · by_cases hlo:lo.2=true
    · by_cases h1:(mZ p c core odd lo.1).2=0
      · by_cases hu:up.2=true
        · by_cases h2:(mZ p c core odd up.1).2=0
          · refine ⟨nI (mZ p c core odd lo.1).1 (mZ p c core odd i).1&&(nI (mZ p c core odd i).1 (mZ p c core odd up.1).1&&nI (mZ p c core odd lo.1).1 (mZ p c core odd up.1).1),S1 h0 hlo h1 (J1 hu h2 _ ?_),fun e => ?_⟩
            · rw [hah,hah,hah]
              cases nI (mZ p c core odd lo.1).1 (mZ p c core odd i).1 <;> cases nI (mZ p c core odd i).1 (mZ p c core odd up.1).1 <;> simp
            · simp only [Bool.and_eq_true] at e
              exact ⟨h0,fun k a b c' d=>by have:=hup hu k a b c' d;subst this;exact ⟨h2,e.2.1⟩,fun k a b c' d=>by have:=hdn hlo k a b c' d;subst this;exact ⟨h1,e.1⟩⟩
          · exact ⟨false,S1 h0 hlo h1 (J2 hu h2 _),wrong⟩
        · refine ⟨nI (mZ p c core odd lo.1).1 (mZ p c core odd i).1,S1 h0 hlo h1 (J3 hu _ ?_),fun e=>⟨h0,fun k a b c' d=>(ae (by simpa using hu) k a b c').elim,fun k a b c' d=>by have:=hdn hlo k a b c' d;subst this;exact ⟨h1,e⟩⟩⟩
          rw [hah,ac,ac];cases nI (mZ p c core odd lo.1).1 (mZ p c core odd i).1 <;> simp
      · refine ⟨false,S0 h0 ?_,wrong⟩
        refine Ev.congr (fun k=>by rw [if_pos hlo]) ?_;refine Ev.bind (rF h lo.1) ?_;exact Ev.congr (fun k=>by rw [if_neg h1]) (Ev.now _)
    · by_cases hu:up.2=true
      · by_cases h2:(mZ p c core odd up.1).2=0
        · refine ⟨nI (mZ p c core odd i).1 (mZ p c core odd up.1).1,S2 h0 hlo (J1 hu h2 _ ?_),fun e=>⟨h0,fun k a b c' d=>by have:=hup hu k a b c' d;subst this;exact ⟨h2,e⟩,fun k a b c' d=>(af (by simpa using hlo) k a b c').elim⟩⟩
          rw [aa,hah,aa];cases nI (mZ p c core odd i).1 (mZ p c core odd up.1).1 <;> simp
        · exact ⟨false,S2 h0 hlo (J2 hu h2 _),wrong⟩
      · refine ⟨true,S2 h0 hlo (J3 hu _ ?_),fun e=>⟨h0,fun k a b c' d=>(ae (by simpa using hu) k a b c').elim,fun k a b c' d=>(af (by simpa using hlo) k a b c').elim⟩⟩
        rw [aa,ac,aa];simp
  · refine ⟨false,?_,wrong⟩
    unfold jL.f;refine Ev.bind (rF h i) ?_;exact Ev.congr (fun k=>by rw [if_neg h0]) (Ev.now _)
end Go.Proofs.YtmbmalkpmanaaaaGreat.P
namespace Go.Proofs.YtmbmalkpmanaaaaGreat.P
set_option linter.unusedVariables false
set_option linter.unusedSimpArgs false
open Go.RowKit Go.Proofs.YtmbmalkpmanaaaaGreatW.iD Go.Proofs.YtmbmalkpmanaaaaGreatW.jw
variable {p c:Int} {core:List (List Sp)} {odd:List Gn}
structure Ex (p c:Int) (core:List (List Sp)) (odd:List Gn) (i:Int):Prop where
  r:inR i
  n:fs c core odd i≠[]
  lo : -1099511627776≤gLo p c core odd i
  hi:gHi p c core odd i≤1099511627776
def gT (p c:Int) (core:List (List Sp)) (odd:List Gn) (i:Int):List Sp:=(fs c core odd i).map (oH (fb p c odd i))
theorem SF.qJ (h:SF p c core odd) {i:Int} (e:Ex p c core odd i):mZ p c core odd i=(gT p c core odd i,0):=by
  unfold mZ;rw [if_pos e.r,if_neg e.n];unfold qI;have e1:=e.lo;have e2:=e.hi;rw [if_pos (((h.vG i).qZ e.n).2 ⟨e1,e2⟩)];rfl
theorem SF.uZ (h:SF p c core odd) {i:Int} (hn:fs c core odd i≠[]) (e:¬ Ex p c core odd i):mZ p c core odd i=([],20):=by
  unfold mZ;by_cases hr:inR i
  · rw [if_pos hr,if_neg hn]
    unfold qI;rw [if_neg];intro ha;have:=((h.vG i).qZ hn).1 ha;exact e ⟨hr,hn,this.1,this.2⟩
  · rw [if_neg hr]
theorem SF.wS (h:SF p c core odd) {i:Int} (hr:inR i) (hn:fs c core odd i≠[]) (e:(mZ p c core odd i).2=0):Ex p c core odd i:=by
  refine Classical.byContradiction fun hx => ?_;rw [h.uZ hn hx] at e;cases e
theorem sO {i:Int} (hn:fs c core odd i≠[]):gT p c core odd i≠[]∧oq (gT p c core odd i)=gLo p c core odd i∧oh (gT p c core odd i)=gHi p c core odd i :=
  ⟨by unfold gT;simpa using hn,vP _ _ hn,tX _ _ hn⟩
theorem SF.aan (h:SF p c core odd) {i:Int} (e:Ex p c core odd i):SL (-1099511627776) 1099511627776 (gT p c core odd i):=(h.vG i).moved (((h.vG i).qZ e.n).2 ⟨e.lo,e.hi⟩)
theorem abr (hl:core.length≤6000∧odd.length≤6000):∃ n,Ev (fun k=>j6.f k p c core odd) n:=by
  have k1:∀ (d:Nat) (n:Nat) (x:Int),odd.length - n=d→n≤odd.length→odd.length≤4611686018427387903→∃ r,Ev (fun k=>j6.l1 k x odd (odd.length:Int) (n:Int)) r:=by
    intro d;induction d with
    | zero =>
      intro n x hd hn hl;exact ⟨x,Ev.step (f:=fun _=>some x) (fun k=>by rw [j6.l1,if_neg (by omega)]) (Ev.now _)⟩
    | succ d ih =>
      intro n x hd hn hl;have hlt:n<odd.length:=by omega
      obtain ⟨r,r1⟩:=ih (n+1) (wrap64 (x+((odd[n].f1).length:Int))) (by omega) (by omega) hl;have hw:wrap64 ((n:Int)+1)=((n+1:Nat):Int):=by rw [jl (by omega) (by omega)];simp
      exact ⟨r,Ev.step (fun k=>by rw [j6.l1,if_pos (by omega),if_pos (by omega),if_pos (by omega),rdG odd n hlt,hw]) r1⟩
  have k0:∀ (d:Nat) (n:Nat) (x:Int),core.length - n=d→n≤core.length→core.length≤4611686018427387903→odd.length≤4611686018427387903→∃ r,Ev (fun k=>j6.l0 k x core (core.length:Int) (n:Int) p c core odd) r:=by
    intro d;induction d with
    | zero =>
      intro n x hd hn hl hlo;obtain ⟨r,r1⟩:=k1 _ 0 x rfl (by omega) hlo;exact ⟨r,Ev.step (fun k=>by rw [j6.l0,if_neg (by omega)];rfl) r1⟩
    | succ d ih =>
      intro n x hd hn hl hlo;have hlt:n<core.length:=by omega
      obtain ⟨r,r1⟩:=ih (n+1) (wrap64 (x+((core[n]).length:Int))) (by omega) (by omega) hl hlo;have hw:wrap64 ((n:Int)+1)=((n+1:Nat):Int):=by rw [jl (by omega) (by omega)];simp
      exact ⟨r,Ev.step (fun k=>by rw [j6.l0,if_pos (by omega),if_pos (by omega),if_pos (by omega),rdL core n hlt,hw]) r1⟩
  obtain ⟨r,r1⟩:=k0 _ 0 0 rfl (by omega) (by omega) (by omega);exact ⟨r,r1⟩
theorem abt (m:MF core odd) (hl:core.length≤6000) (hlo:odd.length≤6000):∃ e,Ev (fun k=>ji.f k p c core odd) e∧(e=0→FOK p c core odd):=by
  obtain ⟨n,n1⟩:=abr (p:=p) (c:=c) (core:=core) (odd:=odd) ⟨hl,hlo⟩;obtain ⟨sh,ab,ae⟩:=ace (p:=p) (c:=c) m hl hlo;have start:∀ {e:Int},Ev (fun k=>ji.j0 k (decide (n>60000)) p c core odd) e→Ev (fun k=>ji.f k p c core odd) e:=by
    intro e he;unfold ji.f;refine Ev.congr (fun k=>by rw [if_neg (by omega),if_neg (by omega)]) ?_;exact Ev.bind n1 he
  by_cases hn:n>60000
  · refine ⟨3,start ?_,fun e=>by omega⟩
    rw [decide_eq_true hn];exact Ev.step (f:=fun _=>some 3) (fun k=>by rw [ji.j0,if_pos rfl]) (Ev.now _)
  rw [decide_eq_false hn] at start;have bad:Ev (fun k=>ji.j1 k true p c core odd) 50:=Ev.step (f:=fun _=>some 50) (fun k=>by rw [ji.j1,if_pos rfl]) (Ev.now _);by_cases hs:sh=true
  · have aa:=ae hs
    obtain ⟨tu,af,ag⟩:=acg aa;have st2:∀ {e:Int},Ev (fun k=>ji.j1 k (!tu) p c core odd) e→Ev (fun k=>ji.f k p c core odd) e:=by
      intro e he;refine start ?_;refine Ev.step (fun k=>by rw [ji.j0,if_neg (by simp)]) ?_;refine Ev.bind ab ?_;refine Ev.congr (fun k=>by rw [if_pos hs]) ?_;exact Ev.bind af he
    by_cases ht:tu=true
    · have ah:=ag ht
      have loop:∀ (d n:Nat),odd.length - n=d→n≤odd.length→(∀ j (hj:j<odd.length),j<n→((mZ p c core odd odd[j].f0).2=0 ∧
          (∀ k,odd[j].f0<k→inR k→fs c core odd k≠[]→gap c core odd odd[j].f0 k→(mZ p c core odd k).2=0∧nI (mZ p c core odd odd[j].f0).1 (mZ p c core odd k).1=true) ∧
          (∀ k,k<odd[j].f0→inR k→fs c core odd k≠[]→gap c core odd k odd[j].f0→(mZ p c core odd k).2=0∧nI (mZ p c core odd k).1 (mZ p c core odd odd[j].f0).1=true))) →
          ∃ e,Ev (fun k=>ji.l0 k odd (odd.length:Int) (n:Int) p c core odd) e∧(e=0→FOK p c core odd):=by
        intro d;induction d with
        | zero =>
          intro n hd hnn h1;refine ⟨0,Ev.step (f:=fun _=>some 0) (fun k=>by rw [ji.l0,if_neg (by omega)]) (Ev.now _),fun _=>FOK.of aa ah ⟨?_,?_⟩⟩
          · intro g hg hgn k hk rk nk gk
            obtain ⟨j,hj,rfl⟩:=List.getElem_of_mem hg;obtain ⟨a1,a2,a3⟩:=h1 j hj (by omega);obtain ⟨b1,b2⟩:=a2 k hk rk nk gk;have hn0:fs c core odd odd[j].f0≠[]:=by rw [xU aa hj];exact hgn
            have e1:=aa.wS (aa.hidx _ (List.getElem_mem hj)) hn0 a1;have e2:=aa.wS rk nk b1;rw [aa.qJ e1,aa.qJ e2,xV] at b2;have g1:=sO (p:=p) hn0;have g2:=sO (p:=p) nk;have:=b2 g1.1 g2.1;rw [g1.2.2,g2.2.1] at this;exact this
          · intro g hg hgn k hk rk nk gk
            obtain ⟨j,hj,rfl⟩:=List.getElem_of_mem hg;obtain ⟨a1,a2,a3⟩:=h1 j hj (by omega);obtain ⟨b1,b2⟩:=a3 k hk rk nk gk;have hn0:fs c core odd odd[j].f0≠[]:=by rw [xU aa hj];exact hgn
            have e1:=aa.wS (aa.hidx _ (List.getElem_mem hj)) hn0 a1;have e2:=aa.wS rk nk b1;rw [aa.qJ e1,aa.qJ e2,xV] at b2;have g1:=sO (p:=p) hn0;have g2:=sO (p:=p) nk;have:=b2 g2.1 g1.1;rw [g2.2.2,g1.2.1] at this;exact this
        | succ d ih =>
          intro n hd hnn h1;have hlt:n<odd.length:=by omega
          obtain ⟨b,b1,b2⟩:=abq aa odd[n].f0 (aa.hidx _ (List.getElem_mem hlt));have hw:wrap64 ((n:Int)+1)=((n+1:Nat):Int):=by rw [jl (by omega) (by omega)];simp
          have ac:∀ {e:Int},Ev (fun k=>if b=true then ji.l0 k odd (odd.length:Int) ((n+1:Nat):Int) p c core odd else some 50) e→Ev (fun k=>ji.l0 k odd (odd.length:Int) (n:Int) p c core odd) e:=by
            intro e he;refine Ev.step (fun k=>by rw [ji.l0,if_pos (by omega),if_pos (by omega),if_pos (by omega),rdG odd n hlt,hw]) ?_;exact Ev.bind b1 he
          by_cases hb:b=true
          · obtain ⟨e,e1,e2⟩:=ih (n+1) (by omega) (by omega) (fun j hj hjn=>by
              rcases Nat.lt_or_ge j n with q | q
              · exact h1 j hj q
              · have:j=n:=by omega
                subst this;exact b2 hb)
            exact ⟨e,ac (Ev.congr (fun k=>by rw [if_pos hb]) e1),e2⟩
          · exact ⟨50,ac (Ev.congr (fun k=>by rw [if_neg hb]) (Ev.now _)),fun e=>by omega⟩
      obtain ⟨e,e1,e2⟩:=loop _ 0 rfl (by omega) (fun j hj hjn=>by omega);refine ⟨e,st2 ?_,e2⟩;rw [ht];exact Ev.step (fun k=>by rw [ji.j1,if_neg (by simp)];rfl) e1
    · refine ⟨50,st2 ?_,fun e=>by omega⟩
      have:(!tu)=true:=by simpa using ht
      rw [this];exact bad
  · refine ⟨50,start ?_,fun e=>by omega⟩
    refine Ev.step (fun k=>by rw [ji.j0,if_neg (by simp)]) ?_;refine Ev.bind ab ?_;exact Ev.congr (fun k=>by rw [if_neg hs]) bad
theorem abu (m:MF core odd):∃ b,Ev (fun k=>kN.f k p c core odd) b∧(b=true→FOK p c core odd∧core.length≤12∧odd.length≤8):=by
  unfold kN.f;by_cases hl:(core.length:Int)≤12
  · by_cases hlo:(odd.length:Int)≤8
    · obtain ⟨n,n1⟩:=abr (p:=p) (c:=c) (core:=core) (odd:=odd) ⟨by omega,by omega⟩
      obtain ⟨e,e1,e2⟩:=abt (p:=p) (c:=c) m (by omega) (by omega);have hs:Ev (fun k=>kK.f k p c core odd) (decide (n≤60)):=by
        unfold kK.f;refine Ev.congr (fun k=>by rw [if_pos hl,if_pos hlo]) ?_;exact Ev.bind n1 (Ev.now _)
      by_cases hn:n≤60
      · rw [decide_eq_true hn] at hs
        refine ⟨e==0,?_,fun he=>⟨e2 (by simpa using he),by omega,by omega⟩⟩;refine Ev.bind hs ?_;refine Ev.congr (fun k=>by rw [if_pos rfl]) ?_;exact Ev.bind e1 (Ev.now _)
      · rw [decide_eq_false hn] at hs
        refine ⟨false,?_,fun he=>by cases he⟩;refine Ev.bind hs ?_;exact Ev.congr (fun k=>by rw [if_neg (by simp)]) (Ev.now _)
    · refine ⟨false,?_,fun he=>by cases he⟩
      refine Ev.bind (a:=false) (f:=fun k t=>if t=true then (ji.f k p c core odd).bind fun aa=>some (aa==0) else some false) ?_ (Ev.congr (fun k=>by rw [if_neg (by simp)]) (Ev.now _));unfold kK.f;exact Ev.congr (fun k=>by rw [if_pos hl,if_neg hlo]) (Ev.now _)
  · refine ⟨false,?_,fun he=>by cases he⟩
    refine Ev.bind (a:=false) (f:=fun k t=>if t=true then (ji.f k p c core odd).bind fun aa=>some (aa==0) else some false) ?_ (Ev.congr (fun k=>by rw [if_neg (by simp)]) (Ev.now _));unfold kK.f;exact Ev.congr (fun k=>by rw [if_neg hl]) (Ev.now _)
end Go.Proofs.YtmbmalkpmanaaaaGreat.P
namespace Go.Proofs.YtmbmalkpmanaaaaGreat.P
set_option linter.unusedVariables false
set_option linter.unusedSimpArgs false
open Go.RowKit Go.Proofs.YtmbmalkpmanaaaaGreatW.iD Go.Proofs.YtmbmalkpmanaaaaGreatW.jw
variable {p c:Int} {core:List (List Sp)} {odd:List Gn}
theorem abv (a p A:Int) (hp:0<p) (h1 : -A≤a) (h2:a≤A) (hA:0≤A) : -A≤a / p∧a / p≤A:=by
  have h3:A*1≤A*p:=Int.mul_le_mul_of_nonneg_left (by omega) hA;rw [Int.mul_one] at h3;exact ⟨Int.le_ediv_of_mul_le hp (by rw [Int.neg_mul];omega),Int.ediv_le_of_le_mul hp (by omega)⟩
theorem abw (q c A C:Int) (h1 : -A≤q) (h2:q≤A) (hc:0≤c) (hC:c≤C) (hA:0≤A) : -(A*C)≤q*c∧q*c≤A*C:=by
  have a1:q*c≤A*c:=Int.mul_le_mul_of_nonneg_right h2 hc;have a2:(-A)*c≤q*c:=Int.mul_le_mul_of_nonneg_right h1 hc;have a3:A*c≤A*C:=Int.mul_le_mul_of_nonneg_left hC hA;rw [Int.neg_mul] at a2;omega
theorem adG (q c r:Int) (h0:0≤r) (h1:r<c):(q*c+r) / c=q∧(q*c+r) % c=r:=by
  have hc:c≠0:=by omega
  constructor
  · rw [Int.add_comm,Int.add_mul_ediv_right _ _ hc,Int.ediv_eq_zero_of_lt h0 h1];omega
  · rw [Int.add_comm,Int.add_mul_emod_self_right,Int.emod_eq_of_lt h0 h1]
theorem xW (h:SF p c core odd) (q:Int) (j:Nat) (hj:j<core.length):jZ c core (q*c+j)=core[j]∧(q*c+j) / c=q:=by
  have h0:=h.hc;obtain ⟨e1,e2⟩:=adG q c j (by omega) (by omega);refine ⟨?_,e1⟩;unfold jZ;rw [if_neg (by omega),e2,List.getD_eq_getElem?_getD,Int.toNat_natCast,List.getElem?_eq_getElem hj];rfl
theorem rz (h:SF p c core odd) {m:Int} (hm:jZ c core m≠[]):0<c∧0<p∧∃ j:Nat,∃ hj:j<core.length,m % c=(j:Int)∧jZ c core m=core[j]:=by
  have hc:c≠0:=by intro e;apply hm;unfold jZ;rw [if_pos e]
  have h0:=h.hc;have h1:0≤m % c:=Int.emod_nonneg _ hc;have h2:m % c<c:=Int.emod_lt_of_pos _ (by omega);have h3:(m % c).toNat<core.length:=by omega
  have hp:p≠0:=fun e=>hc (h.hz.2 e);have hp0:=h.hp0;refine ⟨by omega,by omega,(m % c).toNat,h3,by omega,?_⟩;unfold jZ;rw [if_neg hc,List.getD_eq_getElem?_getD,List.getElem?_eq_getElem h3];rfl
def upI (T p c:Int) (l:List Sp) (j:Int):Int := -((oh l - T) / p)*c+j
theorem acW (h:SF p c core odd) (T:Int) {m:Int} (hm:jZ c core m≠[]):T≤gHi p c core [] m↔upI T p c (jZ c core m) (m % c)≤m:=by
  obtain ⟨hc,hp,_⟩:=rz h hm;have e:=Int.mul_ediv_add_emod m c;have e1:gHi p c core [] m=oh (jZ c core m)+m / c*p:=rfl;rw [e1];unfold upI;generalize oh (jZ c core m)=L;generalize m / c=q at *;generalize m % c=r at *;subst e;have k1 : -q≤(L - T) / p ↔ -q*p≤L - T:=Int.le_ediv_iff_mul_le hp;generalize (L - T) / p=z at *;have k2 : -z*c≤q*c ↔ -z≤q:=by
    constructor
    · intro g;exact Int.le_of_mul_le_mul_right g hc
    · intro g;exact Int.mul_le_mul_of_nonneg_right g (by omega)
  have k3 : -q*p = -(q*p):=Int.neg_mul _ _;have k4:c*q=q*c:=Int.mul_comm _ _;rw [k4];rw [k3] at k1;constructor
  · intro g
    have:=k1.2 (by omega);have:=k2.2 (by omega);omega
  · intro g
    have:=k2.1 (by omega);have:=k1.1 (by omega);omega
theorem abx (h:SF p c core odd) (T:Int) (hT : -1099511627777≤T∧T≤1099511627777) {j:Nat} (hj:j<core.length) (hn:core[j]≠[]) :
    -2199023255554 ≤ -((oh core[j] - T) / p) ∧ -((oh core[j] - T) / p)≤2199023255554 ∧ -13194139533330000 ≤ -((oh core[j] - T) / p)*c ∧ -((oh core[j] - T) / p)*c≤13194139533330000:=by
  have h0:=h.hc;have hl:=h.hl;have hp:p≠0:=fun e=>by have:=h.hz.2 e;omega
  have hp0:=h.hp0;have:=(h.hcore _ (List.getElem_mem hj)).ends hn;obtain ⟨a,b⟩:=abv (oh core[j] - T) p 2199023255554 (by omega) (by omega) (by omega) (by omega);generalize (oh core[j] - T) / p=z at *;obtain ⟨a1,b1⟩:=abw (-z) c 2199023255554 6000 (by omega) (by omega) (by omega) (by omega) (by omega);exact ⟨by omega,by omega,by omega,by omega⟩
theorem aeA (x b T p:Int) (hT : -1099511627777≤T∧T≤1099511627777) (hb : -1099511627776≤b∧b≤1099511627776) (hp:0<p∧p≤1099511627776):Ev (fun k=>mD.f k x b T p) (-((b - T) / p)):=by
  unfold mD.f;obtain ⟨a1,a2⟩:=abv (b - T) p 2199023255554 (by omega) (by omega) (by omega) (by omega);rw [jl (n:=b - T) (by omega) (by omega)];refine Ev.bind (wO (b - T) p (by omega) (by omega)) ?_;rw [jl (by omega) (by omega)];exact Ev.now _
structure PlU (p c:Int) (core:List (List Sp)) (T:Int) (r:Int × Bool):Prop where
  y:r.2=true→jZ c core r.1≠[]∧T≤gHi p c core [] r.1∧∀ m,jZ c core m≠[]→T≤gHi p c core [] m→r.1≤m
  n:r.2=false→∀ m,jZ c core m=[]
  lo : -4611686018427387904≤r.1
  hi:r.1≤4611686018427387904
theorem yR (h:SF p c core odd) (T:Int) (hT : -1099511627777≤T∧T≤1099511627777):∃ r,Ev (fun k=>iM.f k p c core odd T) r∧PlU p c core T r:=by
  have hc:=h.hc;have hl:=h.hl;have loop:∀ (d n:Nat) (a:Int) (ok:Bool),core.length - n=d→n≤core.length →
      (ok=true→∃ j,∃ hj:j<core.length,core[j]≠[]∧a=upI T p c core[j] j)→(ok=true→∀ j (hj:j<core.length),j<n→core[j]≠[]→a≤upI T p c core[j] j)→(ok=false→a=0∧∀ j (hj:j<core.length),j<n→core[j]=[]) →
      ∃ r,Ev (fun k=>iM.l0 k T a ok core (core.length:Int) (n:Int) p c core odd 1) r∧PlU p c core T r:=by
    intro d;induction d with
    | zero =>
      intro n a ok hd hn i1 i2 i3;refine ⟨(a,ok),Ev.step (f:=fun _=>some (a,ok)) (fun k=>by rw [iM.l0,if_neg (by omega)]) (Ev.now _),?_⟩;cases ok with
      | true =>
        obtain ⟨j,hj,hne,rfl⟩:=i1 rfl;obtain ⟨e1,e2⟩:=xW h (-((oh core[j] - T) / p)) j hj;have hne':jZ c core (upI T p c core[j] j)≠[]:=by unfold upI;rw [e1];exact hne
        obtain ⟨b1,b2,b3,b4⟩:=abx h T hT hj hne;have e3:upI T p c core[j] j % c=j:=(adG _ c j (by omega) (by omega)).2;have e4:jZ c core (upI T p c core[j] j)=core[j]:=e1;refine ⟨fun _=>⟨hne',(acW h T hne').2 ?_,fun m hm ab => ?_⟩,(fun e=>by cases e),(by simp only [upI];omega),(by simp only [upI];omega)⟩
        · simp only [e3,e4];exact Int.le_refl _
        · obtain ⟨_,_,i,hi,f1,f2⟩:=rz h hm
          have g1:=(acW h T hm).1 ab;rw [f1,f2] at g1;have:=i2 rfl i hi (by omega) (by rw [← f2];exact hm);simp only;omega
      | false =>
        obtain ⟨rfl,hz⟩:=i3 rfl;refine ⟨(fun e=>by cases e),(fun _ m=>Classical.byContradiction fun hm => ?_),by simp,by simp⟩;obtain ⟨_,_,i,hi,f1,f2⟩:=rz h hm;exact hm (by rw [f2];exact hz i hi (by omega))
    | succ d ih =>
      intro n a ok hd hn i1 i2 i3;have hlt:n<core.length:=by omega
      have hw:wrap64 ((n:Int)+1)=((n+1:Nat):Int):=by rw [jl (by omega) (by omega)];simp
      have aa:=h.hcore _ (List.getElem_mem hlt);have hlen:core[n].length≤4611686018427387904:=by have:=aa.yP;omega
      by_cases hz:core[n]=[]
      · obtain ⟨r,r1,r2⟩:=ih (n+1) a ok (by omega) (by omega) i1 (fun e j hj hjn hne=>by
          rcases Nat.lt_or_ge j n with g | g
          · exact i2 e j hj g hne
          · have:j=n:=by omega
            subst this;exact absurd hz hne) (fun e=>⟨(i3 e).1,fun j hj hjn=>by
          rcases Nat.lt_or_ge j n with g | g
          · exact (i3 e).2 j hj g
          · have:j=n:=by omega
            subst this;exact hz⟩)
        refine ⟨r,Ev.step (fun k => ?_) r1,r2⟩;rw [iM.l0,if_pos (by omega),if_pos (by omega),if_pos (by omega),rdL core n hlt,oQ _ hlen,mQ,if_pos hz,Option.bind_some,if_neg (by simp),hw]
      · obtain ⟨b1,b2,b3,b4⟩:=abx h T hT hlt hz
        have ae:=aa.ends hz;have hp:p≠0:=fun e=>by have:=h.hz.2 e;omega
        have hp0:=h.hp0;have hp1:=h.hp1;have ac:=aeA (oq core[n]) (oh core[n]) T p hT (by omega) (by omega);have eu : -((oh core[n] - T) / p)*c+n=upI T p c core[n] n:=rfl;generalize hz1 : -((oh core[n] - T) / p)=z at *;have w1:wrap64 (z*c)=z*c:=jl (by omega) (by omega);have w2:wrap64 (z*c+n)=upI T p c core[n] n:=by rw [← eu];exact jl (by omega) (by omega)
        have hub : -13194139533336000≤upI T p c core[n] n∧upI T p c core[n] n≤13194139533336000:=by rw [← eu];omega
        have take:(ok=true→upI T p c core[n] n≤a)→∃ r,Ev (fun k=>iM.l0 k T (upI T p c core[n] n) true core (core.length:Int) ((n+1:Nat):Int) p c core odd 1) r∧PlU p c core T r:=fun hle=>by
          refine ih (n+1) _ true (by omega) (by omega) (fun _=>⟨n,hlt,hz,rfl⟩) (fun _ j hj hjn hne => ?_) (fun e=>by cases e);rcases Nat.lt_or_ge j n with g | g
          · cases ok with
            | true=>have:=i2 rfl j hj g hne;have:=hle rfl;omega
            | false=>exact absurd ((i3 rfl).2 j hj g) hne
          · have:j=n:=by omega
            subst this;exact Int.le_refl _
        have start:∀ {r:Int × Bool},Ev (fun k=>if ok=true then (if (wrap64 ((wrap64 ((wrap64 ((wrap64 (z*c))+(n:Int))) - a))*1))<0 then (iM.l0 k T (wrap64 ((wrap64 (z*c))+(n:Int))) true core (core.length:Int) (wrap64 ((n:Int)+1)) p c core odd 1) else (iM.l0 k T a ok core (core.length:Int) (wrap64 ((n:Int)+1)) p c core odd 1)) else (iM.l0 k T (wrap64 ((wrap64 (z*c))+(n:Int))) true core (core.length:Int) (wrap64 ((n:Int)+1)) p c core odd 1)) r→Ev (fun k=>iM.l0 k T a ok core (core.length:Int) (n:Int) p c core odd 1) r:=fun he=>by
          refine Ev.step (fun k => ?_) (Ev.bind (f:=fun k t=>if ok=true then (if (wrap64 ((wrap64 ((wrap64 ((wrap64 (t*c))+(n:Int))) - a))*1))<0 then (iM.l0 k T (wrap64 ((wrap64 (t*c))+(n:Int))) true core (core.length:Int) (wrap64 ((n:Int)+1)) p c core odd 1) else (iM.l0 k T a ok core (core.length:Int) (wrap64 ((n:Int)+1)) p c core odd 1)) else (iM.l0 k T (wrap64 ((wrap64 (t*c))+(n:Int))) true core (core.length:Int) (wrap64 ((n:Int)+1)) p c core odd 1)) ac he);rw [iM.l0,if_pos (by omega),if_pos (by omega),if_pos (by omega),rdL core n hlt,oQ _ hlen,mQ,if_neg hz,Option.bind_some,if_pos rfl]
        rw [w1,w2,hw] at start;by_cases hok:ok=true
        · obtain ⟨j,hj,hne,ea⟩:=i1 hok
          have hab : -13194139533336000≤a∧a≤13194139533336000:=by
            obtain ⟨c1,c2,c3,c4⟩:=abx h T hT hj hne;rw [ea];unfold upI;omega
          have w3:wrap64 (wrap64 (upI T p c core[n] n - a)*1)=upI T p c core[n] n - a:=by rw [Int.mul_one,jl (n:=upI T p c core[n] n - a) (by omega) (by omega),jl (by omega) (by omega)]
          by_cases hlt2:upI T p c core[n] n - a<0
          · obtain ⟨r,r1,r2⟩:=take (fun _=>by omega)
            exact ⟨r,start (Ev.congr (fun k=>by rw [if_pos hok,w3,if_pos hlt2]) r1),r2⟩
          · obtain ⟨r,r1,r2⟩:=ih (n+1) a ok (by omega) (by omega) i1 (fun e j hj hjn hne=>by
              rcases Nat.lt_or_ge j n with g | g
              · exact i2 e j hj g hne
              · have:j=n:=by omega
                subst this;omega) (fun e=>by rw [hok] at e;cases e)
            exact ⟨r,start (Ev.congr (fun k=>by rw [if_pos hok,w3,if_neg hlt2]) r1),r2⟩
        · obtain ⟨r,r1,r2⟩:=take (fun e=>absurd e hok)
          exact ⟨r,start (Ev.congr (fun k=>by rw [if_neg hok]) r1),r2⟩
  obtain ⟨r,r1,r2⟩:=loop _ 0 0 false rfl (by omega) (fun e=>by cases e) (fun e=>by cases e) (fun _=>⟨rfl,fun j hj hjn=>by omega⟩);exact ⟨r,r1,r2⟩
end Go.Proofs.YtmbmalkpmanaaaaGreat.P
namespace Go.Proofs.YtmbmalkpmanaaaaGreat.P
set_option linter.unusedVariables false
set_option linter.unusedSimpArgs false
open Go.RowKit Go.Proofs.YtmbmalkpmanaaaaGreatW.iD Go.Proofs.YtmbmalkpmanaaaaGreatW.jw
variable {p c:Int} {core:List (List Sp)} {odd:List Gn}
theorem u7 {i:Int} (h : -9223372036854775808≤i) (h2:i≤9223372036854775807):rO i=true:=by unfold rO;simp;omega
theorem wT (i:Int):qp (nK odd) i=0↔lX odd i=none:=by
  rw [aaY,pK];unfold nK;simp
theorem SF.guard (h:SF p c core odd):odd.length<1000000000∧odd.all (fun g=>rO g.f0)=true:=by
  have:=h.hlo;refine ⟨by omega,?_⟩;rw [List.all_eq_true];intro g hg;have:=h.hidx g hg;unfold inR at this;exact u7 (by omega) (by omega)
theorem xX (h:SF p c core odd) (t:TF p core) {i k:Int} (hik:i<k) (hi:jZ c core i≠[]) (hk:jZ c core k≠[]):gHi p c core [] i<gLo p c core [] k:=zC h t hik hi hk
theorem adV (h:SF p c core odd) {i:Int} (hi:jZ c core i≠[]):gLo p c core [] i≤gHi p c core [] i:=h.pY.oP hi
structure PnU (p c:Int) (core:List (List Sp)) (odd:List Gn) (T:Int) (r:Int × Bool):Prop where
  y:r.2=true→Ex p c core [] r.1∧lX odd r.1=none∧T≤gHi p c core [] r.1∧∀ m,Ex p c core [] m→lX odd m=none→T≤gHi p c core [] m→r.1≤m
  n:r.2=false→r.1=0∧∀ m,Ex p c core [] m→lX odd m=none→¬ T≤gHi p c core [] m
theorem wU (h:SF p c core odd) (t:TF p core) (T:Int) (hT : -1099511627777≤T):∀ (d:Nat) (i:Int) (ok:Bool) (b:Int),
    (ok=true→(1099511627777 - i).toNat≤d)→(ok=true→inR i∧jZ c core i≠[]∧T≤gHi p c core [] i) →
    (∀ m,Ex p c core [] m→lX odd m=none→T≤gHi p c core [] m→ok=true∧i≤m)→0≤b→b≤2 →
    (1≤b→ok=true→∀ m,i≤m→jZ c core m≠[] → -1099511627776≤gLo p c core [] m) →
    (2≤b→ok=true→∀ m,i≤m→jZ c core m≠[]→1099511627776<gLo p c core [] m) →
    ∃ r,Ev (fun k=>jd.l1 k i ok b p c core odd) r∧PnU p c core odd T r:=by
  intro d;induction d with
  | zero =>
    intro i ok b hd hA hB h0 h2 hC hD;have hok:ok=false:=by
      cases ok with
      | true=>have:=hA rfl;have:=this.1;unfold inR at this;have:=hd rfl;omega
      | false=>rfl
    subst hok;exact ⟨(0,false),Ev.step (f:=fun _=>some (0,false)) (fun k=>by rw [jd.l1,if_neg (by simp)]) (Ev.now _),⟨(fun e=>by cases e),fun _=>⟨rfl,fun m m1 m2 m3=>by cases (hB m m1 m2 m3).1⟩⟩⟩
  | succ d ih =>
    intro i ok b hd hA hB h0 h2 hC hD;cases ok with
    | false=>exact ⟨(0,false),Ev.step (f:=fun _=>some (0,false)) (fun k=>by rw [jd.l1,if_neg (by simp)]) (Ev.now _),⟨(fun e=>by cases e),fun _=>⟨rfl,fun m m1 m2 m3=>by cases (hB m m1 m2 m3).1⟩⟩⟩
    | true =>
      obtain ⟨a1,a2,a3⟩:=hA rfl;have hd:=hd rfl;by_cases hb:b<2
      · obtain ⟨n,n1,n2⟩:=sN h.pY i (by unfold inR at a1;omega)
        have aa:=rF h.pY i;have next:∀ (b':Int),0≤b'→b'≤2→(∀ m,Ex p c core [] m→lX odd m=none→m≠i) →
            (1≤b'→∀ m,i<m→jZ c core m≠[] → -1099511627776≤gLo p c core [] m)→(2≤b'→∀ m,i<m→jZ c core m≠[]→1099511627776<gLo p c core [] m) →
            ∃ r,Ev (fun k=>jd.l1 k n.1 n.2 b' p c core odd) r∧PnU p c core odd T r:=by
          intro b' g0 g2 gi gC gD;unfold inR at a1;refine ih n.1 n.2 b' (fun e => ?_) (fun e => ?_) (fun m m1 m2 m3 => ?_) g0 g2 (fun e1 e2 m hm => ?_) (fun e1 e2 m hm => ?_)
          · have:=(n2.1 e).1;omega
          · obtain ⟨q1,q2,q3,q4⟩:=n2.1 e
            have:=xX h t (i:=i) (k:=n.1) (by omega) a2 q3;have:=adV h q3;exact ⟨q2,q3,by omega⟩
          · have g3:=(hB m m1 m2 m3).2
            have g4:=gi m m1 m2;have g5:=m1.r;cases hn:n.2 with
            | true =>
              refine ⟨rfl,Classical.byContradiction fun hx => ?_⟩;unfold inR at g5;exact m1.n ((n2.1 hn).2.2.2 m (by omega) (by omega))
            | false =>
              exact absurd ((n2.2 hn).2 m (by unfold inR at g5;omega) g5) m1.n
          · have:=(n2.1 e2).1;exact gC e1 m (by omega)
          · have:=(n2.1 e2).1;exact gD e1 m (by omega)
        by_cases hx:Ex p c core [] i
        · rw [h.pY.qJ hx] at aa
          by_cases ho:lX odd i=none
          · refine ⟨(i,true),Ev.step (fun k=>by rw [jd.l1,if_pos rfl,if_pos hb]) (Ev.bind aa (Ev.congr (fun k=>by rw [if_pos rfl,if_pos (u7 (by unfold inR at a1;omega) (by unfold inR at a1;omega)),if_pos ((wT i).2 ho)]) (Ev.now _))),⟨fun _=>⟨hx,ho,a3,fun m m1 m2 m3=>(hB m m1 m2 m3).2⟩,fun e=>by cases e⟩⟩
          · obtain ⟨r,r1,r2⟩:=next b h0 h2 (fun m _ m2 e=>ho (by rw [← e];exact m2)) (fun e m hm=>hC e rfl m (by omega)) (fun e m hm=>hD e rfl m (by omega))
            refine ⟨r,Ev.step (fun k=>by rw [jd.l1,if_pos rfl,if_pos hb]) (Ev.bind aa (Ev.congr (fun k=>by rw [if_pos rfl,if_pos (u7 (by unfold inR at a1;omega) (by unfold inR at a1;omega)),if_neg (fun e=>ho ((wT i).1 e))]) (Ev.bind n1 r1))),r2⟩
        · rw [h.pY.uZ a2 hx] at aa
          have hw:wrap64 (b+1)=b+1:=jl (by omega) (by omega);obtain ⟨r,r1,r2⟩:=next (b+1) (by omega) (by omega) (fun m m1 _ e=>hx (by rw [← e];exact m1)) (fun _ m hm hmn=>by
              have:=xX h t hm a2 hmn;omega) (fun e m hm hmn=>by
              have q1:=xX h t hm a2 hmn;have q2:=hC (by omega) rfl i (Int.le_refl _) a2;refine Classical.byContradiction fun hq=>hx ⟨a1,a2,q2,?_⟩;omega)
          refine ⟨r,Ev.step (fun k=>by rw [jd.l1,if_pos rfl,if_pos hb]) (Ev.bind aa (Ev.congr (fun k=>by rw [if_neg (by simp),hw]) (Ev.bind n1 r1))),r2⟩
      · refine ⟨(0,false),Ev.step (f:=fun _=>some (0,false)) (fun k=>by rw [jd.l1,if_pos rfl,if_neg hb]) (Ev.now _),⟨(fun e=>by cases e),fun _=>⟨rfl,fun m m1 m2 m3 => ?_⟩⟩⟩
        have q1:=hD (by omega) rfl m (hB m m1 m2 m3).2 m1.n;have q2:=adV h m1.n;have:=m1.hi;omega
theorem yS (h:SF p c core odd) (t:TF p core) (T:Int) (hT : -1099511627777≤T∧T≤1099511627777):∃ r,Ev (fun k=>jd.f k p c core odd T) r∧PnU p c core odd T r:=by
  obtain ⟨a,a1,a2⟩:=yR h T hT;have start:∀ {r:Int × Bool},Ev (fun k=>if a.2=true then (kF.f k p c core [] (wrap64 (a.1 - 1))).bind fun n=>jd.l1 k n.1 n.2 0 p c core odd else some (0,false)) r→Ev (fun k=>jd.f k p c core odd T) r:=fun he=>by
    refine Ev.congr (fun k=>by rw [jd.f,if_pos h.guard]) ?_;exact Ev.bind a1 he
  have b1:=a2.lo;have b2:=a2.hi;cases ha:a.2 with
  | false=>exact ⟨(0,false),start (Ev.congr (fun k=>by rw [ha,if_neg (by simp)]) (Ev.now _)),⟨(fun e=>by cases e),fun _=>⟨rfl,fun m m1 _ _=>m1.n (a2.n ha m)⟩⟩⟩
  | true =>
    obtain ⟨q1,q2,q3⟩:=a2.y ha;have hw:wrap64 (a.1 - 1)=a.1 - 1:=jl (by omega) (by omega);obtain ⟨n,n1,n2⟩:=sN h.pY (a.1 - 1) (by omega);obtain ⟨r,r1,r2⟩:=wU h t T hT.1 (1099511627777 - n.1).toNat n.1 n.2 0 (fun _=>Nat.le_refl _) (fun e=>by
      obtain ⟨g1,g2,g3,g4⟩:=n2.1 e;refine ⟨g2,g3,?_⟩;rcases Int.lt_trichotomy a.1 n.1 with g | g | g
      · have:=xX h t g q1 g3
        have:=adV h g3;omega
      · rw [← g];exact q2
      · omega) (fun m m1 m2 m3=>by
      have g3:=q3 m m1.n m3;have g5:=m1.r;cases hn:n.2 with
      | true =>
        refine ⟨rfl,Classical.byContradiction fun hx => ?_⟩;unfold inR at g5;exact m1.n ((n2.1 hn).2.2.2 m (by omega) (by omega))
      | false=>exact absurd ((n2.2 hn).2 m (by unfold inR at g5;omega) g5) m1.n) (by omega) (by omega) (fun e=>by omega) (fun e=>by omega)
    exact ⟨r,start (Ev.congr (fun k=>by rw [ha,if_pos rfl,hw]) (Ev.bind n1 r1)),r2⟩
theorem vk {m:Int} (ho:lX odd m=none):fs c core odd m=jZ c core m∧gLo p c core odd m=gLo p c core [] m∧gHi p c core odd m=gHi p c core [] m:=by
  have e1:fs c core odd m=jZ c core m:=by unfold fs;rw [ho]
  have e2:fb p c odd m=m / c*p:=by unfold fb;rw [ho]
  refine ⟨e1,?_,?_⟩
  · unfold gLo;rw [e1,e2];rfl
  · unfold gHi;rw [e1,e2];rfl
theorem tZ {m:Int} (ho:lX odd m=none):Ex p c core odd m↔Ex p c core [] m:=by
  obtain ⟨e1,e2,e3⟩:=vk (p:=p) (c:=c) (core:=core) ho;constructor
  · intro g;exact ⟨g.r,by rw [show fs c core [] m=jZ c core m from rfl,← e1];exact g.n,by rw [← e2];exact g.lo,by rw [← e3];exact g.hi⟩
  · intro g;exact ⟨g.r,by rw [e1];exact g.n,by rw [e2];exact g.lo,by rw [e3];exact g.hi⟩
theorem aby (h:SF p c core odd) {j:Nat} (hj:j<odd.length):fs c core odd odd[j].f0=odd[j].f1∧gLo p c core odd odd[j].f0=oq odd[j].f1∧gHi p c core odd odd[j].f0=oh odd[j].f1:=by
  have e1:=xU h hj;have e2:fb p c odd odd[j].f0=0:=by unfold fb;rw [uX h.hup (List.getElem_mem hj)]
  refine ⟨e1,?_,?_⟩
  · unfold gLo;rw [e1,e2];omega
  · unfold gHi;rw [e1,e2];omega
theorem acX (h:SF p c core odd) {j:Nat} (hj:j<odd.length) (hn:odd[j].f1≠[]):Ex p c core odd odd[j].f0:=by
  obtain ⟨e1,e2,e3⟩:=aby h hj;have:=(h.hodd _ (List.getElem_mem hj)).ends hn;exact ⟨h.hidx _ (List.getElem_mem hj),by rw [e1];exact hn,by rw [e2];omega,by rw [e3];omega⟩
theorem acY {m:Int}:lX odd m=none∨∃ j,∃ hj:j<odd.length,odd[j].f0=m:=by
  cases ho:lX odd m with
  | none=>exact .inl rfl
  | some l =>
    obtain ⟨g,hg,e1,e2⟩:=pJ ho;obtain ⟨j,hj,rfl⟩:=List.getElem_of_mem hg;exact .inr ⟨j,hj,e1⟩
structure FrU (p c:Int) (core:List (List Sp)) (odd:List Gn) (T:Int) (r:Int × Bool):Prop where
  y:r.2=true→Ex p c core odd r.1∧T≤gHi p c core odd r.1∧∀ m,Ex p c core odd m→T≤gHi p c core odd m→r.1≤m
  n:r.2=false→r.1=0∧∀ m,Ex p c core odd m→¬ T≤gHi p c core odd m
theorem vo (h:SF p c core odd) (T:Int):∀ (d n:Nat) (a:Int) (ok:Bool),odd.length - n=d→n≤odd.length →
    (ok=true→Ex p c core odd a∧T≤gHi p c core odd a)→(∀ m,Ex p c core odd m→T≤gHi p c core odd m→(lX odd m=none∨∃ j,∃ hj:j<odd.length,j<n∧odd[j].f0=m)→ok=true∧a≤m)→(ok=false→a=0) →
    ∃ r,Ev (fun k=>iI.l0 k T a ok odd (odd.length:Int) (n:Int) 1) r∧FrU p c core odd T r:=by
  have hlo:=h.hlo;intro d;induction d with
  | zero =>
    intro n a ok hd hn i1 i2 i3;refine ⟨(a,ok),Ev.step (f:=fun _=>some (a,ok)) (fun k=>by rw [iI.l0,if_neg (by omega)]) (Ev.now _),?_⟩;have all:∀ m,lX odd m=none∨∃ j,∃ hj:j<odd.length,j<n∧odd[j].f0=m:=fun m=>by
      rcases acY (odd:=odd) (m:=m) with g | ⟨j,hj,g⟩
      · exact .inl g
      · exact .inr ⟨j,hj,by omega,g⟩
    cases ok with
    | true=>exact ⟨fun _=>⟨(i1 rfl).1,(i1 rfl).2,fun m m1 m2=>(i2 m m1 m2 (all m)).2⟩,fun e=>by cases e⟩
    | false=>exact ⟨(fun e=>by cases e),fun _=>⟨i3 rfl,fun m m1 m2=>by cases (i2 m m1 m2 (all m)).1⟩⟩
  | succ d ih =>
    intro n a ok hd hn i1 i2 i3;have hlt:n<odd.length:=by omega
    have hw:wrap64 ((n:Int)+1)=((n+1:Nat):Int):=by rw [jl (by omega) (by omega)];simp
    have aa:=h.hodd _ (List.getElem_mem hlt);have hlen:odd[n].f1.length≤4611686018427387904:=by have:=aa.yP;omega
    obtain ⟨e1,e2,e3⟩:=aby h hlt;have skip:(odd[n].f1=[]∨¬ T≤oh odd[n].f1∨ok=true∧a≤odd[n].f0)→∃ r,Ev (fun k=>iI.l0 k T a ok odd (odd.length:Int) ((n+1:Nat):Int) 1) r∧FrU p c core odd T r:=fun hs=>by
      refine ih (n+1) a ok (by omega) (by omega) i1 (fun m m1 m2 m3 => ?_) i3;rcases m3 with g | ⟨j,hj,g,g2⟩
      · exact i2 m m1 m2 (.inl g)
      · rcases Nat.lt_or_ge j n with g3 | g3
        · exact i2 m m1 m2 (.inr ⟨j,hj,g3,g2⟩)
        · have:j=n:=by omega
          subst this;subst g2;rcases hs with hs | hs | hs
          · exact absurd (by rw [e1];exact hs) m1.n
          · exact absurd (by rw [← e3];exact m2) hs
          · exact hs
    by_cases hz:odd[n].f1=[]
    · obtain ⟨r,r1,r2⟩:=skip (.inl hz)
      refine ⟨r,Ev.step (fun k => ?_) r1,r2⟩;rw [iI.l0,if_pos (by omega),if_pos (by omega),if_pos (by omega),rdG odd n hlt,oQ _ hlen,mQ,if_pos hz,Option.bind_some,if_neg (by simp),hw]
    · by_cases hso:T≤oh odd[n].f1
      · have take:(ok=true→odd[n].f0≤a)→∃ r,Ev (fun k=>iI.l0 k T odd[n].f0 true odd (odd.length:Int) ((n+1:Nat):Int) 1) r∧FrU p c core odd T r:=fun hle=>by
          refine ih (n+1) odd[n].f0 true (by omega) (by omega) (fun _=>⟨acX h hlt hz,by rw [e3];exact hso⟩) (fun m m1 m2 m3=>⟨rfl,?_⟩) (fun e=>by cases e);rcases m3 with g | ⟨j,hj,g,g2⟩
          · obtain ⟨q1,q2⟩:=i2 m m1 m2 (.inl g);have:=hle q1;omega
          · rcases Nat.lt_or_ge j n with g3 | g3
            · obtain ⟨q1,q2⟩:=i2 m m1 m2 (.inr ⟨j,hj,g3,g2⟩);have:=hle q1;omega
            · have:j=n:=by omega
              subst this;subst g2;exact Int.le_refl _
        have hd:decide (oh odd[n].f1≥T)=true:=decide_eq_true hso;by_cases hok:ok=true
        · have hr1:=(i1 hok).1.r
          have hr2:=h.hidx _ (List.getElem_mem hlt);unfold inR at hr1 hr2;have w3:wrap64 (wrap64 (odd[n].f0 - a)*1)=odd[n].f0 - a:=by rw [Int.mul_one,jl (n:=odd[n].f0 - a) (by omega) (by omega),jl (by omega) (by omega)]
          by_cases hlt2:odd[n].f0 - a<0
          · obtain ⟨r,r1,r2⟩:=take (fun _=>by omega)
            refine ⟨r,Ev.step (fun k => ?_) r1,r2⟩;rw [iI.l0,if_pos (by omega),if_pos (by omega),if_pos (by omega),rdG odd n hlt,oQ _ hlen,mQ,if_neg hz,Option.bind_some,if_pos rfl,nD.f,Option.bind_some,if_pos hd,if_pos hok,w3,if_pos hlt2,hw]
          · obtain ⟨r,r1,r2⟩:=skip (.inr (.inr ⟨hok,by omega⟩))
            refine ⟨r,Ev.step (fun k => ?_) r1,r2⟩;rw [iI.l0,if_pos (by omega),if_pos (by omega),if_pos (by omega),rdG odd n hlt,oQ _ hlen,mQ,if_neg hz,Option.bind_some,if_pos rfl,nD.f,Option.bind_some,if_pos hd,if_pos hok,w3,if_neg hlt2,hw]
        · obtain ⟨r,r1,r2⟩:=take (fun e=>absurd e hok)
          refine ⟨r,Ev.step (fun k => ?_) r1,r2⟩;rw [iI.l0,if_pos (by omega),if_pos (by omega),if_pos (by omega),rdG odd n hlt,oQ _ hlen,mQ,if_neg hz,Option.bind_some,if_pos rfl,nD.f,Option.bind_some,if_pos hd,if_neg hok,hw]
      · obtain ⟨r,r1,r2⟩:=skip (.inr (.inl hso))
        refine ⟨r,Ev.step (fun k => ?_) r1,r2⟩;have hd:¬ decide (oh odd[n].f1≥T)=true:=by simp;omega
        rw [iI.l0,if_pos (by omega),if_pos (by omega),if_pos (by omega),rdG odd n hlt,oQ _ hlen,mQ,if_neg hz,Option.bind_some,if_pos rfl,nD.f,Option.bind_some,if_neg hd,hw]
def cl (t:Int):Int:=mx (mn t 1099511627777) (-1099511627777)
theorem aeB (t:Int):cl t=max (min t 1099511627777) (-1099511627777):=by unfold cl;rw [aez,abo]
theorem yT (h:FOK p c core odd) (t:Int):∃ r,Ev (fun k=>jv.f k p c core odd t) r∧FrU p c core odd t r:=by
  have hcl:=aeB t;obtain ⟨a,a1,a2⟩:=yS h.s h.t (cl t) (by omega);obtain ⟨r,r1,r2⟩:=vo h.s (cl t) _ 0 a.1 a.2 rfl (by omega) (fun e=>by
    obtain ⟨q1,q2,q3,q4⟩:=a2.y e;exact ⟨(tZ q2).2 q1,by rw [(vk q2).2.2];exact q3⟩) (fun m m1 m2 m3=>by
    rcases m3 with g | ⟨j,hj,g,_⟩
    · have aa:=m2
      rw [(vk g).2.2] at aa;cases ha:a.2 with
      | true=>exact ⟨rfl,(a2.y ha).2.2.2 m ((tZ g).1 m1) g aa⟩
      | false=>exact absurd aa ((a2.n ha).2 m ((tZ g).1 m1) g)
    · omega) (fun e=>(a2.n e).1)
  have tr:∀ m,Ex p c core odd m→(t≤gHi p c core odd m↔cl t≤gHi p c core odd m):=fun m e=>by
    have:=e.lo;have:=e.hi;have:=h.s.oP e.n;omega
  refine ⟨r,?_,⟨fun e => ?_,fun e=>⟨(r2.n e).1,fun m m1 m2=>(r2.n e).2 m m1 ((tr m m1).1 m2)⟩⟩⟩
  · unfold jv.f
    refine Ev.bind (Ev.val rfl) ?_;refine Ev.bind (a:=(r.1,r.2)) ?_ (Ev.now _);unfold iI.f;exact Ev.bind a1 r1
  · obtain ⟨q1,q2,q3⟩:=r2.y e
    exact ⟨q1,(tr _ q1).2 q2,fun m m1 m2=>q3 m m1 ((tr m m1).1 m2)⟩
end Go.Proofs.YtmbmalkpmanaaaaGreat.P

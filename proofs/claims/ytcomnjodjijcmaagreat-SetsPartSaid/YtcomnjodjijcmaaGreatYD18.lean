/- Lemmas for laws of chapter 7: what the functions that they reach compute. No condition of its own. -/
import Derived.Test.YtcomnjodjijcmaaGreatYD17
namespace Go.Proofs.YtcomnjodjijcmaaGreat.Q
set_option linter.unusedVariables false
set_option linter.unusedSimpArgs false
open Go.RowKit Go.Proofs.YtcomnjodjijcmaaGreatW.dA Go.Proofs.YtcomnjodjijcmaaGreatW.eD M R P
section
variable {p c:Int} {core:List (List Sp)} {odd:List Gn}
theorem ab3 (k:Nat) (l:List Sp) (h:l.length≤8796093022208):eO.f k l=some l:=by
  unfold eO.f;rw [if_pos h]
theorem qw (n:Int) {a b:List Sp}:b=a.map (fG n)↔a.length=b.length∧∀ j (h1:j<a.length) (h2:j<b.length),b[j].f0 - a[j].f0=n∧b[j].f1 - a[j].f1=n:=by
  constructor
  · rintro rfl
    refine ⟨by simp,fun j h1 h2 => ?_⟩;simp only [List.getElem_map,fG];omega
  · rintro ⟨e,h⟩
    refine List.ext_getElem (by simp [e]) (fun j h1 h2 => ?_);have h3:j<a.length:=by omega
    have:=h j h3 h1;simp only [List.getElem_map,fG];cases hb:b[j] with
    | mk x y=>rw [hb] at this;simp only at this;rw [show x=a[j].f0+n by omega,show y=a[j].f1+n by omega]
def xV (p:Int) (core:List (List Sp)) (d:Nat) (n:Int):Prop:=∀ i (hi:i<core.length),(∀ h:i+d<core.length,core[i+d]=core[i].map (fG n))∧(¬ i+d<core.length→∀ h:i+d - core.length<core.length,core[i+d - core.length]=core[i].map (fG (n - p)))
end
variable [Inhabited WT]
variable {p c:Int} {core:List (List Sp)} {odd:List Gn}
theorem xW (a b:List Sp) (hl:a.length≤4611686018427387904):∃ r,Ev (fun k=>fO.f k a b) r∧(r=true↔a=b):=by
  unfold fO.f dz.f;by_cases e:a.length=b.length
  case neg=>exact ⟨false,Ev.bind (f:=fun _ a=>some a) (Ev.yes (by simp;omega) (Ev.now _)) (Ev.now _),fun q=>(by cases q),fun q=>absurd (congrArg List.length q) e⟩
  have key:∀ (d n:Nat),a.length - n=d→n≤a.length→(∀ j (h1:j<a.length) (h2:j<b.length),j<n→a[j]=b[j])→∃ r,Ev (fun k=>dz.l0 (some false) (some true) a b (a.length:Int) k (n:Int)) r∧(r=true↔a=b):=by
    intro d;induction d with
    | zero =>
      intro n hd hn hi;refine ⟨true,Ev.step (fun k=>rfl) ?_,fun _=>List.ext_getElem e (fun j h1 h2=>hi j h1 h2 (by omega)),fun _=>rfl⟩;have c1:¬ (n:Int)<(a.length:Int):=by omega
      simp only [dz.l0,dz.l0T,decide_eq_true_eq,c1,if_false];exact Ev.now _
    | succ d ih =>
      intro n hd hn hi;have h1:n<a.length:=by omega
      have h2:n<b.length:=by omega
      have c1:(n:Int)<(a.length:Int):=by omega
      have c2:(0:Int)≤(n:Int):=by omega
      have c3:(n:Int)<(b.length:Int):=by omega
      have hw:wq ((n:Int)+1)=((n+1:Nat):Int):=by rw [iX (by omega) (by omega)];simp
      by_cases q:a[n].f0=b[n].f0∧a[n].f1=b[n].f1
      · obtain ⟨r,r1,r2⟩:=ih (n+1) (by omega) (by omega) (fun j g1 g2 hj=>by
          rcases Nat.lt_or_ge j n with g | g
          · exact hi j g1 g2 g
          · have:j=n:=by omega
            subst this;cases ha:a[j] with
            | mk x y =>
              cases hb:b[j] with
              | mk z w=>rw [ha,hb] at q;simp only at q;rw [q.1,q.2])
        refine ⟨r,Ev.step (fun k=>rfl) ?_,r2⟩;simp only [dz.l0,dz.l0T,decide_eq_true_eq,c1,c2,c3,if_true,hw,acz a n h1,acz b n h2];exact Ev.no (by simp [q.1,q.2]) r1
      · refine ⟨false,Ev.step (fun k=>rfl) ?_,fun z=>(by cases z),fun z=>absurd ⟨by simp [z],by simp [z]⟩ q⟩
        simp only [dz.l0,dz.l0T,decide_eq_true_eq,c1,c2,c3,if_true,hw,acz a n h1,acz b n h2];refine Ev.yes ?_ (Ev.now _);simp only [Bool.not_eq_true',Bool.and_eq_false_iff,beq_eq_false_iff_ne];by_cases q1:a[n].f0=b[n].f0
        · exact Or.inr (fun q2=>q ⟨q1,q2⟩)
        · exact Or.inl q1
  obtain ⟨r,r1,r2⟩:=key a.length 0 (by omega) (by omega) (fun j _ _ h=>by omega);exact ⟨r,Ev.bind (f:=fun _ a=>some a) (Ev.no (by simp [e]) r1) (Ev.now _),r2⟩
theorem sP {a b:List Sp} (ha:SL (-1099511627776) 1099511627776 a) (hb:SL (-1099511627776) 1099511627776 b) (n:Int):∃ r,Ev (fun k=>dQ.f k a b n) r∧(r=true↔b=a.map (fG n)):=by
  unfold dQ.f;have la:=ha.uD;by_cases e:a.length=b.length
  case neg=>exact ⟨false,Ev.yes (by simp;omega) (Ev.now _),fun q=>(by cases q),fun q=>absurd ((qw n).1 q).1 e⟩
  have key:∀ (d m:Nat),a.length - m=d→m≤a.length→(∀ j (h1:j<a.length) (h2:j<b.length),j<m→b[j].f0 - a[j].f0=n∧b[j].f1 - a[j].f1=n)→∃ r,Ev (fun k=>dQ.l0 (some false) (some true) b a (a.length:Int) n k (m:Int)) r∧(r=true↔b=a.map (fG n)):=by
    intro d;induction d with
    | zero =>
      intro m hd hm hi;refine ⟨true,Ev.step (fun k=>rfl) ?_,fun _=>(qw n).2 ⟨e,fun j h1 h2=>hi j h1 h2 (by omega)⟩,fun _=>rfl⟩;have c1:¬ (m:Int)<(a.length:Int):=by omega
      simp only [dQ.l0,dQ.l0T,decide_eq_true_eq,c1,if_false];exact Ev.now _
    | succ d ih =>
      intro m hd hm hi;have h1:m<a.length:=by omega
      have h2:m<b.length:=by omega
      have c1:(m:Int)<(a.length:Int):=by omega
      have c2:(0:Int)≤(m:Int):=by omega
      have c3:(m:Int)<(b.length:Int):=by omega
      have hw:wq ((m:Int)+1)=((m+1:Nat):Int):=by rw [iX (by omega) (by omega)];simp
      have ta:=SL.ticks ha (List.getElem_mem h1);have tb:=SL.ticks hb (List.getElem_mem h2);have w1:wq (b[m].f0 - a[m].f0)=b[m].f0 - a[m].f0:=iX (by omega) (by omega);have w2:wq (b[m].f1 - a[m].f1)=b[m].f1 - a[m].f1:=iX (by omega) (by omega);by_cases q1:b[m].f0 - a[m].f0=n
      · by_cases q2:b[m].f1 - a[m].f1=n
        · obtain ⟨r,r1,r2⟩:=ih (m+1) (by omega) (by omega) (fun j g1 g2 hj=>by
            rcases Nat.lt_or_ge j m with g | g
            · exact hi j g1 g2 g
            · have:j=m:=by omega
              subst this;exact ⟨q1,q2⟩)
          refine ⟨r,Ev.step (fun k=>rfl) ?_,r2⟩;simp only [dQ.l0,dQ.l0T,decide_eq_true_eq,c1,c2,c3,if_true,hw,acz a m h1,acz b m h2,w1,w2];exact Ev.yes q1 (Ev.no (by simp [q2]) r1)
        · refine ⟨false,Ev.step (fun k=>rfl) ?_,fun z=>(by cases z),fun z=>absurd (((qw n).1 z).2 m h1 h2).2 q2⟩
          simp only [dQ.l0,dQ.l0T,decide_eq_true_eq,c1,c2,c3,if_true,hw,acz a m h1,acz b m h2,w1,w2];exact Ev.yes q1 (Ev.yes (by simp [q2]) (Ev.now _))
      · refine ⟨false,Ev.step (fun k=>rfl) ?_,fun z=>(by cases z),fun z=>absurd (((qw n).1 z).2 m h1 h2).1 q1⟩
        simp only [dQ.l0,dQ.l0T,decide_eq_true_eq,c1,c2,c3,if_true,hw,acz a m h1,acz b m h2,w1,w2];exact Ev.no q1 (Ev.now _)
  obtain ⟨r,r1,r2⟩:=key a.length 0 (by omega) (by omega) (fun j _ _ h=>by omega);exact ⟨r,Ev.no (by simp [e]) r1,r2⟩
theorem aaz (h:SF p c core odd):∃ b,Ev (fun k=>eH.f k p c core odd) b∧(b=true↔∀ l∈core,l=[]):=by
  have hl0:=h.hl;unfold eH.f;have key:∀ (rest pre:List (List Sp)),core=pre++rest→(∀ l∈pre,l=[])→∃ b,Ev (fun k=>eH.l0 (fun y=>some (!decide (y≥0))) (some true) core (core.length:Int) k (pre.length:Int)) b∧(b=true↔∀ l∈core,l=[]):=by
    intro rest;induction rest with
    | nil =>
      intro pre hp he;refine ⟨true,Ev.step (f:=fun _=>some true) (fun k => ?_) (Ev.now _),?_⟩
      · have c1:¬ (pre.length:Int)<(core.length:Int):=by rw [hp];simp
        simp only [eH.l0,eH.l0T,decide_eq_true_eq,c1,if_false]
      · simp only [List.append_nil] at hp
        subst hp;exact ⟨fun _=>he,fun _=>rfl⟩
    | cons l r ih =>
      intro pre hp he;have hlen:pre.length+1≤core.length:=by rw [hp];simp
      have hrd:gL core (pre.length:Int)=l:=by rw [hp];simp [gL]
      have c1:(pre.length:Int)<(core.length:Int):=by omega
      have c2:(0:Int)≤(pre.length:Int):=by omega
      have hw:=nx c1 c2 (by omega);by_cases hz:l=[]
      · obtain ⟨x,x1,x2⟩:=ih (pre++[l]) (by rw [hp];simp) (fun y hy=>by rcases List.mem_append.1 hy with hy | hy;exact he y hy;simp at hy;rw [hy];exact hz)
        refine ⟨x,Ev.step (fun k=>rfl) ?_,x2⟩;simp only [eH.l0,eH.l0T,decide_eq_true_eq,c1,c2,if_true,hrd,hw,iF.f,hz,Option.bind_some];rw [len1 _ l];exact x1
      · refine ⟨false,Ev.step (f:=fun _=>some false) (fun k => ?_) (Ev.now _),?_⟩
        · have:((l.length:Int)>0):=by have:=List.length_pos_iff.2 hz;omega
          simp only [eH.l0,eH.l0T,decide_eq_true_eq,c1,c2,if_true,hrd,iF.f,this,Option.bind_some];simp
        · constructor
          · intro e;cases e
          · intro e;exact absurd (e l (by rw [hp];simp)) hz
  exact key core [] rfl (by simp)
theorem ab4 (h:SF p c core odd) (d:Nat) (hd0:1≤d) (hd:d≤core.length) (n:Int) (hn : -1099511627776≤n∧n≤1099511627776):∃ b,Ev (fun k=>dZ.f k p c core odd (d:Int) n) b∧(b=true↔xV p core d n):=by
  have hl0:=h.hl;have hc0:=h.hc;have hp0:=h.hp0;have hp1:=h.hp1;unfold dZ.f;have key:∀ (e i:Nat),core.length - i=e→i≤core.length→(∀ j (hj:j<core.length),j<i→(∀ h:j+d<core.length,core[j+d]=core[j].map (fG n))∧(¬ j+d<core.length→∀ h:j+d - core.length<core.length,core[j+d - core.length]=core[j].map (fG (n - p))))→∃ b,Ev (fun k=>dZ.l0 (some false) (some true) (d:Int) n core (core.length:Int) p c core k (i:Int)) b∧(b=true↔xV p core d n):=by
    intro e;induction e with
    | zero =>
      intro i he hi hh;refine ⟨true,Ev.step (fun k=>rfl) ?_,fun _ j hj=>hh j hj (by omega),fun _=>rfl⟩;have c1:¬ (i:Int)<(core.length:Int):=by omega
      simp only [dZ.l0,dZ.l0T,decide_eq_true_eq,c1,if_false];exact Ev.now _
    | succ e ih =>
      intro i he hi hh;have h1:i<core.length:=by omega
      have c1:(i:Int)<(core.length:Int):=by omega
      have c2:(0:Int)≤(i:Int):=by omega
      have hw:wq ((i:Int)+1)=((i+1:Nat):Int):=by rw [iX (by omega) (by omega)];simp
      have w1:wq ((i:Int)+(d:Int))=((i+d:Nat):Int):=by rw [iX (by omega) (by omega)];simp
      have S1:=h.hcore _ (List.getElem_mem h1);by_cases g:i+d<core.length
      · have g1:¬ ((i+d:Nat):Int)≥c:=by omega
        have g2:(0:Int)≤((i+d:Nat):Int):=by omega
        have g3:((i+d:Nat):Int)<(core.length:Int):=by omega
        have w2:wq (n - 0)=n:=by rw [iX (by omega) (by omega)];omega
        obtain ⟨b,b1,b2⟩:=sP S1 (h.hcore _ (List.getElem_mem g)) n;cases b with
        | true =>
          obtain ⟨r,r1,r2⟩:=ih (i+1) (by omega) (by omega) (fun j hj hji=>by
            rcases Nat.lt_or_ge j i with q | q
            · exact hh j hj q
            · have:j=i:=by omega
              subst this;exact ⟨fun _=>b2.1 rfl,fun q=>absurd g q⟩)
          refine ⟨r,Ev.step (fun k=>rfl) ?_,r2⟩;simp only [dZ.l0,dZ.l0T,decide_eq_true_eq,c1,c2,if_true,hw,w1,w2,g1,g2,g3,if_false,rdL core i h1,rdL core (i+d) g];exact Ev.bind b1 (Ev.no (by simp) r1)
        | false =>
          refine ⟨false,Ev.step (fun k=>rfl) ?_,fun z=>(by cases z),fun z=>(by have:=b2.2 ((z i h1).1 g);cases this)⟩;simp only [dZ.l0,dZ.l0T,decide_eq_true_eq,c1,c2,if_true,hw,w1,w2,g1,g2,g3,if_false,rdL core i h1,rdL core (i+d) g];exact Ev.bind b1 (Ev.yes rfl (Ev.now _))
      · have g1:((i+d:Nat):Int)≥c:=by omega
        have gk:i+d - core.length<core.length:=by omega
        have w3:wq (((i+d:Nat):Int) - c)=((i+d - core.length:Nat):Int):=by rw [iX (by omega) (by omega)];omega
        have g2:(0:Int)≤((i+d - core.length:Nat):Int):=by omega
        have g3:((i+d - core.length:Nat):Int)<(core.length:Int):=by omega
        have w2:wq (n - p)=n - p:=iX (by omega) (by omega);obtain ⟨b,b1,b2⟩:=sP S1 (h.hcore _ (List.getElem_mem gk)) (n - p);cases b with
        | true =>
          obtain ⟨r,r1,r2⟩:=ih (i+1) (by omega) (by omega) (fun j hj hji=>by
            rcases Nat.lt_or_ge j i with q | q
            · exact hh j hj q
            · have:j=i:=by omega
              subst this;exact ⟨fun q=>absurd q g,fun _ _=>b2.1 rfl⟩)
          refine ⟨r,Ev.step (fun k=>rfl) ?_,r2⟩;simp only [dZ.l0,dZ.l0T,decide_eq_true_eq,c1,c2,if_true,hw,w1,w2,w3,g1,g2,g3,rdL core i h1,rdL core (i+d - core.length) gk];exact Ev.bind b1 (Ev.no (by simp) r1)
        | false =>
          refine ⟨false,Ev.step (fun k=>rfl) ?_,fun z=>(by cases z),fun z=>(by have:=b2.2 ((z i h1).2 g gk);cases this)⟩;simp only [dZ.l0,dZ.l0T,decide_eq_true_eq,c1,c2,if_true,hw,w1,w2,w3,g1,g2,g3,rdL core i h1,rdL core (i+d - core.length) gk];exact Ev.bind b1 (Ev.yes rfl (Ev.now _))
  exact key core.length 0 (by omega) (by omega) (fun j _ h=>by omega)
end Go.Proofs.YtcomnjodjijcmaaGreat.Q
namespace Go.Proofs.YtcomnjodjijcmaaGreat.Q
set_option linter.unusedVariables false
set_option linter.unusedSimpArgs false
open Go.RowKit Go.Proofs.YtcomnjodjijcmaaGreatW.dA Go.Proofs.YtcomnjodjijcmaaGreatW.eD M R P
section
variable {p c:Int} {core:List (List Sp)} {odd:List Gn}
structure Rep (p:Int) (core:List (List Sp)) (d:Nat):Prop where
  d0:1≤d
  d1:d ∣ core.length
  d2:(((core.length / d:Nat):Int)) ∣ p
  tn:xV p core d (p / ((core.length / d:Nat):Int))
structure adx (p:Int) (core:List (List Sp)) (r:P.S25):Prop where
  e:(∀ l∈core,l=[])→r=⟨0,0,[],[]⟩
  n:¬ (∀ l∈core,l=[])→∃ d:Nat,Rep p core d∧(∀ d',d'<d→¬ Rep p core d')∧r=⟨p / ((core.length / d:Nat):Int),(d:Int),core.take d,[]⟩
theorem ab5 (h0:0<core.length):Rep p core core.length:=by
  refine ⟨h0,Nat.dvd_refl _,?_,fun i hi=>⟨fun h=>by omega,fun _ h => ?_⟩⟩
  · rw [Nat.div_self h0];exact ⟨p,by simp⟩
  · have e:p / ((core.length / core.length:Nat):Int) - p=0:=by rw [Nat.div_self h0];simp
    have e2:i+core.length - core.length=i:=by omega
    rw [e];have e3:core[i].map (fG 0)=core[i]:=(List.map_congr_left (fun s _=>show fG 0 s=id s by simp [fG])).trans (List.map_id _);rw [e3];congr 1
theorem adx.sf (h:SF p c core odd) {r:P.S25} (s:adx p core r):SF r.f0 r.f1 r.f2 []∧r.f3=[]:=by
  by_cases hb:∀ l∈core,l=[]
  · rw [s.e hb]
    exact ⟨⟨rfl,by simp,by simp,by simp,by simp,by simp,by simp,List.Pairwise.nil,by simp,by simp⟩,rfl⟩
  · obtain ⟨d,q,_,rfl⟩:=s.n hb
    have hlen:0<core.length:=by
      cases core with
      | nil=>exact absurd (fun l hl=>by cases hl) hb
      | cons a t=>simp
    have hdl:d≤core.length:=Nat.le_of_dvd hlen q.d1;have hq:1≤core.length / d:=Nat.div_pos hdl q.d0;have hp0:=h.hp0;have hp1:=h.hp1;have hc:=h.hc;have hpz:p≠0:=fun e=>by have:=h.hz.2 e;omega
    obtain ⟨y,hy⟩:=q.d2;have hpos:0<((core.length / d:Nat):Int):=by omega
    have hdiv:p / ((core.length / d:Nat):Int)=y:=by rw [hy];exact Int.mul_ediv_cancel_left _ (by omega)
    have hy0:0<y:=by
      rcases Int.lt_or_le 0 y with g | g
      · exact g
      · have:((core.length / d:Nat):Int)*y≤0:=Int.mul_nonpos_of_nonneg_of_nonpos (by omega) g
        omega
    have hyp:y≤p:=by
      have:1*y≤((core.length / d:Nat):Int)*y:=Int.mul_le_mul_of_nonneg_right (by omega) (by omega);omega
    rw [hdiv];show SF y (d:Int) (core.take d) []∧_;have hd0:=q.d0;refine ⟨⟨?_,by omega,by omega,?_,?_,by simp,by simp,List.Pairwise.nil,?_,by simp⟩,rfl⟩
    · simp only [List.length_take];omega
    · constructor <;> intro g <;> omega
    · exact fun l hl=>h.hcore l (List.mem_of_mem_take hl)
    · simp only [List.length_take];have:=h.hl;omega
end
variable [Inhabited WT]
variable {p c:Int} {core:List (List Sp)} {odd:List Gn}
abbrev CX (γ:Type):=Int→Int→(List (List Sp))→(List Gn)→Int→Option γ
abbrev CZ (γ:Type):=Int→Int→(List (List Sp))→(List Gn)→Int→Int→(List (List Sp))→Int→Option γ
abbrev CY (γ:Type):=Int→Int→Int→(List (List Sp))→(List Gn)→Int→CX γ→CZ γ→Option γ
theorem ab6 (h:SF p c core odd) {β:Type} (d:Nat) (hd:d≤core.length):∀ (e i:Nat),(core.take d).length - i=e→i≤(core.take d).length→∀ (Y:Nat→List (List Sp)→Option β) (v:β),Ev (fun k=>Y k (core.take d)) v→Ev (fun k=>dH.l1 (Y k) (core.take d) ((core.take d).length:Int) k (i:Int) ((core.take d).take i)) v:=by
  have hl:=h.hl;have hll:(core.take d).length≤6000:=by simp only [List.length_take];omega
  intro e;induction e with
  | zero =>
    intro i he hi Y v hY;have e3:(core.take d).take i=core.take d:=List.take_of_length_le (by omega);rw [e3];have c1:¬ (i:Int)<((core.take d).length:Int):=by omega
    refine Ev.step (fun k=>rfl) ?_;simp only [dH.l1,dH.l1T,decide_eq_true_eq,c1,if_false];exact Ev.shift hY
  | succ e ih =>
    intro i he hi Y v hY;have hlt:i<(core.take d).length:=by omega
    have hb:=SL.len (lo:=0) (h.hcore _ (List.mem_of_mem_take (List.getElem_mem hlt)));have ha:∀ k,eO.f k (core.take d)[i]=some (core.take d)[i]:=fun k=>ab3 k _ (by omega);have htk:(core.take d).take i++[(core.take d)[i]]=(core.take d).take (i+1):=(List.take_succ_eq_append_getElem hlt).symm;have hl2:((core.take d).take i).length+1≤5864062014805:=by rw [List.length_take];omega
    have c1:(i:Int)<((core.take d).length:Int):=by omega
    have c2:(0:Int)≤(i:Int):=by omega
    have hrd:=rdL (core.take d) i hlt;have hw:wq ((i:Int)+1)=((i+1:Nat):Int):=by rw [iX (by omega) (by omega)];simp
    have hi2:=ih (i+1) (by omega) (by omega) (fun k=>Y (k+1)) v (Ev.shift hY);rw [← htk] at hi2;refine Ev.step (fun k=>rfl) ?_;simp only [dH.l1,dH.l1T,decide_eq_true_eq,c1,c2,if_true,hrd,hw,ha,Option.bind_some,hl2];exact hi2
theorem ady {γ:Type} {v:γ} (hc:c=core.length) (hl:core.length≤6000) (X0:CZ γ) (X1:CX γ) (h0:0<core.length) (good:Nat→Prop) (dec:∀ d,good d∨¬ good d) {best:Nat} (ab:good best) (hle:best≤core.length) (hdv:best ∣ core.length) (hmin:∀ d,d<best→¬ good d) :
    ∀ (e d:Nat),best - d=e→1≤d→d≤best→∀ (Y:Nat→CY γ),(ac:∀ x0:Nat→CX γ,Ev (fun k=>Y k (best:Int) p c core odd c (x0 k) X0) v)→(∀ d:Nat,1≤d→d<best→d ∣ core.length→∀ x0:Nat→CX γ,Ev (fun k=>x0 k p c core odd c) v→Ev (fun k=>Y k (d:Int) p c core odd c (x0 k) X0) v) →
      Ev (fun k=>dH.l0 (Y k) X0 X1 k (d:Int) p c core odd c) v:=by
  intro e;induction e with
  | zero =>
    intro d he hd0 hd Y hy hn;have:d=best:=by omega
    subst this;have c1:(d:Int)≤c:=by omega
    have c2:¬ (d:Int)=0:=by omega
    have c3:Int.tmod c (d:Int)=0:=by rw [hc];exact Int.tmod_eq_zero_of_dvd (Int.natCast_dvd_natCast.2 hdv)
    refine Ev.step (fun k=>rfl) ?_;simp only [dH.l0,dH.l0T,decide_eq_true_eq,c1,c2,c3,if_true,if_false];exact Ev.shift (hy (fun k z46 z47 z48 z49 z50=>dH.l0 (Y k) X0 X1 (k - 1) (wq ((d:Int)+1)) z46 z47 z48 z49 z50))
  | succ e ih =>
    intro d he hd0 hd Y hy hn;have hlt:d<best:=by omega
    have c1:(d:Int)≤c:=by omega
    have c2:¬ (d:Int)=0:=by omega
    have hw:wq ((d:Int)+1)=((d+1:Nat):Int):=by rw [iX (by omega) (by omega)];simp
    have nxt:=ih (d+1) (by omega) (by omega) (by omega) (fun k=>Y (k+1)) (fun x0=>Ev.shift (g:=fun k=>Y k (best:Int) p c core odd c (x0 (k - 1)) X0) (hy (fun k=>x0 (k - 1)))) (fun d' a1 a2 a3 x0 hx=>Ev.shift (g:=fun k=>Y k (d':Int) p c core odd c (x0 (k - 1)) X0) (hn d' a1 a2 a3 (fun k=>x0 (k - 1)) (Ev.step (fun k=>rfl) hx)));by_cases c3:Int.tmod c (d:Int)=0
    · have aa:d ∣ core.length:=by
        rw [hc] at c3;exact Int.natCast_dvd_natCast.1 (Int.dvd_of_tmod_eq_zero c3)
      refine Ev.step (fun k=>rfl) ?_;simp only [dH.l0,dH.l0T,decide_eq_true_eq,c1,c2,c3,if_true,if_false,hw];exact Ev.shift (g:=fun k=>Y k (d:Int) p c core odd c (fun z46 z47 z48 z49 z50=>dH.l0 (Y k) X0 X1 (k - 1) ((d+1:Nat):Int) z46 z47 z48 z49 z50) X0) (hn d hd0 hlt aa (fun k z46 z47 z48 z49 z50=>dH.l0 (Y k) X0 X1 (k - 1) ((d+1:Nat):Int) z46 z47 z48 z49 z50) (Ev.step (fun k=>rfl) nxt))
    · refine Ev.step (fun k=>rfl) ?_
      simp only [dH.l0,dH.l0T,decide_eq_true_eq,c1,c2,c3,if_true,if_false,hw];exact nxt
end Go.Proofs.YtcomnjodjijcmaaGreat.Q
namespace Go.Proofs.YtcomnjodjijcmaaGreat.Q
set_option linter.unusedVariables false
set_option linter.unusedSimpArgs false
open Go.RowKit Go.Proofs.YtcomnjodjijcmaaGreatW.dA Go.Proofs.YtcomnjodjijcmaaGreatW.eD M R P
section
variable {p c:Int} {core:List (List Sp)} {odd:List Gn}
theorem aiz {x:Int} (h:x=0):¬ (!(decide (x=0)))=true:=by simp [h]
theorem aiJ {x:Int} (h:¬ x=0):(!(decide (x=0)))=true:=by simp [h]
theorem least {P:Nat→Prop}:∀ (n:Nat),P n→∃ m,P m∧∀ j,j<m→¬ P j:=by
  intro n;induction n using Nat.strongRecOn with
  | ind n ih =>
    intro h;by_cases e:∃ j,j<n∧P j
    · obtain ⟨j,j1,j2⟩:=e
      exact ih j j1 j2
    · exact ⟨n,h,fun j j1 j2=>e ⟨j,j1,j2⟩⟩
noncomputable def jW (p c:Int) (core:List (List Sp)) (g:Gn):Bool:=@decide (jJ p c core [] g.f0=(g.f1,0)) (Classical.propDecidable _)
theorem nA {g:Gn}:jW p c core g=true↔jJ p c core [] g.f0=(g.f1,0):=by
  unfold jW;exact @decide_eq_true_iff _ (Classical.propDecidable _)
end
variable [Inhabited WT]
variable {p c:Int} {core:List (List Sp)} {odd:List Gn}
theorem ae6 (h:SF p c core odd):∃ r,Ev (fun k=>dH.f k p c core odd) r∧adx p core r:=by
  have hc:=h.hc;have hl:=h.hl;have hp0:=h.hp0;have hp1:=h.hp1;unfold dH.f;obtain ⟨b,b1,b2⟩:=aaz h;cases b with
  | true=>exact ⟨⟨0,0,[],[]⟩,Ev.bind b1 (Ev.yes rfl (Ev.now _)),fun _=>rfl,fun q=>absurd (b2.1 rfl) q⟩
  | false =>
    have nb:¬ ∀ l∈core,l=[]:=fun q=>by have:=b2.2 q;cases this
    have h0:0<core.length:=by
      cases core with
      | nil=>exact absurd (fun l hl=>by cases hl) nb
      | cons a t=>simp
    obtain ⟨best,hb,hmin⟩:=least (P:=Rep p core) core.length (ab5 h0);have ah:best≤core.length:=Nat.le_of_dvd h0 hb.d1;have quo:∀ d:Nat,1≤d→d ∣ core.length→wq (Int.tdiv c (d:Int))=((core.length / d:Nat):Int)∧1≤core.length / d∧core.length / d≤6000:=fun d h1 h2=>by
      have e1:Int.tdiv c (d:Int)=((core.length / d:Nat):Int):=by rw [hc,Int.tdiv_eq_ediv_of_nonneg (by omega)];simp
      have e2:1≤core.length / d:=Nat.div_pos (Nat.le_of_dvd h0 h2) h1;have e3:core.length / d≤core.length:=Nat.div_le_self _ _;exact ⟨by rw [e1];exact iX (by omega) (by omega),e2,by omega⟩
    have pq:∀ m:Nat,1≤m → -1099511627776≤p / (m:Int)∧p / (m:Int)≤1099511627776:=fun m hm=>by
      have e1:0≤p / (m:Int):=Int.ediv_nonneg hp0 (by omega);have e2:p / (m:Int)≤p:=Int.ediv_le_self _ hp0;omega
    refine ⟨⟨p / ((core.length / best:Nat):Int),(best:Int),core.take best,[]⟩,?_,fun q=>absurd q nb,fun _=>⟨best,hb,hmin,rfl⟩⟩;refine Ev.bind b1 (Ev.no (by simp) ?_);refine ady hc hl _ _ h0 (Rep p core) (fun d=>Classical.em _) hb ah hb.d1 hmin (best - 1) 1 rfl (by omega) hb.d0 (fun k aa ac af ab ai aj x0 x1=>(if aa=0 then none else ((gK.f k ac (wq (Int.tdiv af aa))).bind fun t78=>(if (!(decide (t78.2.1=0)))=true then (x0 ac af ab ai aj) else ((dZ.f k ac af ab ai aa t78.1).bind fun t79=>(if (!t79)=true then (x0 ac af ab ai aj) else (if 0≤aa then (if aa≤(ab.length:Int) then (dH.l1 (fun ak=>(x1 ac af ab ai t78.1 aa ak aj)) (ab.take (Int.toNat aa)) ((ab.take (Int.toNat aa)).length:Int) k 0 []) else none) else none))))))) (fun x0 => ?_) (fun d d1 d2 d3 x0 hx => ?_)
    · obtain ⟨w,m1,m2⟩:=quo best hb.d0 hb.d1
      have nz:¬ (best:Int)=0:=by have:=hb.d0;omega
      refine Ev.no nz ?_;rw [w];refine Ev.bind (qp p _ (by omega) (by omega)) ?_;have rest:p % ((core.length / best:Nat):Int)=0:=Int.emod_eq_zero_of_dvd hb.d2;obtain ⟨t,t1,t2⟩:=ab4 h best hb.d0 ah _ (pq _ m1);obtain rfl:=t2.2 hb.tn;have c2:(0:Int)≤(best:Int):=by omega
      have c3:(best:Int)≤(core.length:Int):=by omega
      refine Ev.no (aiz rest) (Ev.bind t1 (Ev.no (by simp) (Ev.yes c2 (Ev.yes c3 ?_))));have:=ab6 h best ah (core.take best).length 0 (by omega) (by omega) (fun k y=>some (⟨p / ((core.length / best:Nat):Int),(best:Int),y,[]⟩:P.S25)) _ (Ev.now _);exact this
    · obtain ⟨w,m1,m2⟩:=quo d d1 d3
      have nz:¬ (d:Int)=0:=by omega
      refine Ev.no nz ?_;rw [w];refine Ev.bind (qp p _ (by omega) (by omega)) ?_;by_cases rest:p % ((core.length / d:Nat):Int)=0
      · obtain ⟨t,t1,t2⟩:=ab4 h d d1 (by omega) _ (pq _ m1)
        refine Ev.no (aiz rest) (Ev.bind t1 ?_);cases t with
        | true=>exact absurd ⟨d1,d3,Int.dvd_of_emod_eq_zero rest,t2.1 rfl⟩ (hmin d d2)
        | false=>exact Ev.yes rfl hx
      · exact Ev.yes (aiJ rest) hx
theorem adz (h:SF p c core []) (g:Gn):Ev (fun k=>iU.f k p c core [] g.f0 g.f1) (jW p c core g):=by
  unfold iU.f;have hg:=kg h g.f0;refine Ev.bind (jV h g.f0) ?_;by_cases e:(jJ p c core [] g.f0).2=0
  · obtain ⟨r,r1,r2⟩:=xW (jJ p c core [] g.f0).1 g.f1 hg
    have:jW p c core g=r:=by
      rw [Bool.eq_iff_iff,nA,r2];constructor
      · intro q;rw [q]
      · intro q;exact Prod.ext q e
    rw [this];exact Ev.yes (by simpa using e) (Ev.bind (f:=fun _ a=>some a) r1 (Ev.now _))
  · have:jW p c core g=false:=by
      rw [← Bool.not_eq_true,nA];intro q;rw [q] at e;exact e rfl
    rw [this];exact Ev.no (by simpa using e) (Ev.now _)
structure xX (p:Int) (core:List (List Sp)) (odd:List Gn) (r:P.S25):Prop where
  c:adx p core ⟨r.f0,r.f1,r.f2,[]⟩
  o:r.f3=odd.filter fun g => !jW r.f0 r.f1 r.f2 g
theorem kN (h:SF p c core odd):∃ r,Ev (fun k=>dL.f k p c core odd) r∧xX p core odd r:=by
  have hlo:=h.hlo;unfold dL.f;obtain ⟨r,r1,r2⟩:=ae6 h;obtain ⟨s,s3⟩:=r2.sf h;refine ⟨⟨r.f0,r.f1,r.f2,odd.filter fun g => !jW r.f0 r.f1 r.f2 g⟩,Ev.bind r1 ?_,?_,rfl⟩
  · rw [s3]
    have key:∀ (rest pre:List Gn),odd=pre++rest→Ev (fun k=>dL.l0 (fun y8=>some (⟨r.f0,r.f1,r.f2,y8⟩:P.S25)) odd (odd.length:Int) r.f0 r.f1 r.f2 [] k (pre.filter fun g => !jW r.f0 r.f1 r.f2 g) (pre.length:Int)) (⟨r.f0,r.f1,r.f2,odd.filter fun g => !jW r.f0 r.f1 r.f2 g⟩:P.S25):=by
      intro rest;induction rest with
      | nil =>
        intro pre hp;have e:odd=pre:=by rw [hp];simp
        have c1:¬ (pre.length:Int)<(odd.length:Int):=by rw [e];omega
        refine Ev.step (fun k=>rfl) ?_;simp only [dL.l0,dL.l0T,decide_eq_true_eq,c1,if_false];rw [e];exact Ev.now _
      | cons g t ih =>
        intro pre hp;have hlen:pre.length+1≤odd.length:=by rw [hp];simp
        have hrd:gG odd (pre.length:Int)=g:=by simp [hp,gG]
        have c1:(pre.length:Int)<(odd.length:Int):=by omega
        have c2:(0:Int)≤(pre.length:Int):=by omega
        have hw:=nx c1 c2 (by omega);have hg:=SL.len (lo:=0) (h.hodd g (by rw [hp];simp));have ha:∀ k,eO.f k g.f1=some g.f1:=fun k=>ab3 k _ (by omega);have hf:(pre.filter fun g => !jW r.f0 r.f1 r.f2 g).length≤pre.length:=List.length_filter_le _ _;have c3:(pre.filter fun g => !jW r.f0 r.f1 r.f2 g).length+1≤4398046511104:=by omega
        have hi:=ih (pre++[g]) (by rw [hp];simp);rw [← len1,List.filter_append] at hi;refine Ev.step (fun k=>rfl) ?_;simp only [dL.l0,dL.l0T,decide_eq_true_eq,c1,c2,if_true,hrd,hw,ha,Option.bind_some,c3];have pl:=adz s g;refine Ev.bind pl ?_;cases q:jW r.f0 r.f1 r.f2 g with
        | false =>
          have e2:([g].filter fun g => !jW r.f0 r.f1 r.f2 g)=[g]:=by simp [q]
          rw [e2] at hi;exact Ev.yes rfl hi
        | true =>
          have e2:([g].filter fun g => !jW r.f0 r.f1 r.f2 g)=[]:=by simp [q]
          rw [e2,List.append_nil] at hi;exact Ev.no (by simp) hi
    exact key odd [] rfl
  · have e:(⟨r.f0,r.f1,r.f2,[]⟩:P.S25)=r:=by
      cases r with
      | mk a b cc d=>simp only at s3;rw [s3]
    show adx p core ⟨r.f0,r.f1,r.f2,[]⟩;rw [e];exact r2
end Go.Proofs.YtcomnjodjijcmaaGreat.Q
namespace Go.Proofs.YtcomnjodjijcmaaGreat.Q
set_option linter.unusedVariables false
set_option linter.unusedSimpArgs false
open Go.RowKit Go.Proofs.YtcomnjodjijcmaaGreatW.dA Go.Proofs.YtcomnjodjijcmaaGreatW.eD M R P
section
variable {p c:Int} {core:List (List Sp)} {odd:List Gn}
theorem jB (a b:Int) (l:List Sp):(l.map (fG a)).map (fG b)=l.map (fG (a+b)):=by
  rw [List.map_map];refine List.map_congr_left (fun s _ => ?_);simp only [Function.comp,fG,Int.add_assoc]
theorem jy (l:List Sp):l.map (fG 0)=l:=(List.map_congr_left (fun s _=>show fG 0 s=id s by simp [fG])).trans (List.map_id l)
def bT (p c:Int) (core:List (List Sp)) (i:Int):List Sp:=(gJ c core i).map (fG (i / c*p))
theorem oH (i:Int):gT p c core [] i=bT p c core i:=by simp [gT,bT,fs,fb,jh]
theorem mO (h:SF p c core odd) (q:Int) (j:Nat) (hj:j<core.length):bT p c core (q*c+j)=core[j].map (fG (q*p)):=by
  obtain ⟨e1,e2⟩:=abQ h q j hj;unfold bT;rw [e1,e2]
theorem uL (h:SF p c core odd) {d:Nat} {n:Int} (hd0:1≤d) (hd:d≤core.length) (t:xV p core d n) (i:Int):bT p c core (i+d)=(bT p c core i).map (fG n):=by
  have hc:=h.hc;have c0:0<c:=by omega
  have h1:=Int.emod_nonneg i (show c≠0 by omega);have h2:=Int.emod_lt_of_pos i c0;have h3:=Int.mul_ediv_add_emod i c;rw [Int.mul_comm] at h3;obtain ⟨r,hr⟩:∃ r:Nat,(r:Int)=i % c:=⟨(i % c).toNat,by omega⟩;have hrl:r<core.length:=by omega
  have e0:i=i / c*c+(r:Int):=by omega
  have eb:bT p c core i=core[r].map (fG (i / c*p)):=by
    conv=>lhs;rw [e0]
    exact mO h _ r hrl
  rw [eb,jB];by_cases g:r+d<core.length
  · have e1:i+d=i / c*c+((r+d:Nat):Int):=by omega
    rw [e1,mO h _ (r+d) g,(t r hrl).1 g,jB,Int.add_comm]
  · have g2:r+d - core.length<core.length:=by omega
    have e2:(i / c+1)*c=i / c*c+c:=by rw [Int.add_mul,Int.one_mul]
    have e1:i+d=(i / c+1)*c+((r+d - core.length:Nat):Int):=by omega
    rw [e1,mO h _ _ g2,(t r hrl).2 g g2,jB];congr 2;rw [Int.add_mul,Int.one_mul];omega
theorem zB (h:SF p c core odd) {d:Nat} {n:Int} (hd0:1≤d) (hd:d≤core.length) (t:xV p core d n) (i:Int):∀ q:Nat,bT p c core (i+q*d)=(bT p c core i).map (fG (q*n)):=by
  intro q;induction q with
  | zero=>simp [jy]
  | succ q ih =>
    have e:i+((q+1:Nat):Int)*d=(i+q*d)+d:=by rw [Int.natCast_add,Int.add_mul];simp;omega
    rw [e,uL h hd0 hd t,ih,jB];congr 2;rw [Int.natCast_add,Int.add_mul];simp
theorem agn (h:SF p c core odd) {d:Nat} {n:Int} (hd0:1≤d) (hd:d≤core.length) (t:xV p core d n) (i q:Int):bT p c core (i+q*d)=(bT p c core i).map (fG (q*n)):=by
  rcases Int.le_total 0 q with g | g
  · obtain ⟨k,rfl⟩:∃ k:Nat,q=(k:Int):=⟨q.toNat,by omega⟩
    exact zB h hd0 hd t i k
  · obtain ⟨k,rfl⟩:∃ k:Nat,q = -(k:Int):=⟨(-q).toNat,by omega⟩
    have:=zB h hd0 hd t (i + -(k:Int)*d) k;have e:i + -(k:Int)*d+(k:Int)*d=i:=by rw [Int.neg_mul];omega
    rw [e] at this;rw [this,jB];have e2:(k:Int)*n + -(k:Int)*n=0:=by rw [Int.neg_mul];omega
    rw [e2,jy]
theorem adx.ticks (h:SF p c core odd) {r:P.S25} (s:adx p core r) (i:Int):gT r.f0 r.f1 r.f2 [] i=gT p c core [] i:=by
  rw [oH,oH];by_cases hb:∀ l∈core,l=[]
  · rw [s.e hb]
    have e1:gJ c core i=[]:=by
      refine Classical.byContradiction fun hn => ?_;obtain ⟨_,_,j,hj,_,e⟩:=uG h hn;rw [e] at hn;exact hn (hb _ (List.getElem_mem hj))
    unfold bT;rw [e1];simp [gJ]
  · obtain ⟨s1,_⟩:=s.sf h
    obtain ⟨d,q,_,rfl⟩:=s.n hb;have hlen:0<core.length:=by
      cases core with
      | nil=>exact absurd (fun l hl=>by cases hl) hb
      | cons a t=>simp
    have hdl:d≤core.length:=Nat.le_of_dvd hlen q.d1;have hd0:=q.d0;have h1:=Int.emod_nonneg i (show (d:Int)≠0 by omega);have h2:=Int.emod_lt_of_pos i (show (0:Int)<d by omega);have h3:=Int.mul_ediv_add_emod i d;rw [Int.mul_comm] at h3;obtain ⟨j,hj⟩:∃ j:Nat,(j:Int)=i % d:=⟨(i % d).toNat,by omega⟩;have e0:i=(j:Int)+i / d*d:=by omega
    have e1:i=i / d*d+(j:Int):=by omega
    have jl:j<(core.take d).length:=by simp only [List.length_take];omega
    have lhs:=mO s1 (i / d) j jl;rw [← e1] at lhs;have rhs:=agn h hd0 hdl q.tn (j:Int) (i / d);rw [← e0] at rhs;have base:=mO h 0 j (by omega);rw [Int.zero_mul,Int.zero_add,Int.zero_mul,jy] at base;rw [lhs,rhs,base,List.getElem_take]
end
end Go.Proofs.YtcomnjodjijcmaaGreat.Q
namespace Go.Proofs.YtcomnjodjijcmaaGreat.Q
set_option linter.unusedVariables false
set_option linter.unusedSimpArgs false
open Go.RowKit Go.Proofs.YtcomnjodjijcmaaGreatW.dA Go.Proofs.YtcomnjodjijcmaaGreatW.eD M R P
theorem pG {l:List Sp} (h:SL (-1099511627776) 1099511627776 l):mK 0 l=(l,0):=by
  unfold mK;rw [if_pos (List.all_eq_true.2 fun s hs=>rD.2 (by have:=SL.ticks h hs;omega))];have:l.map (fG 0)=l:=(List.map_congr_left (fun s _=>show fG 0 s=id s by simp [fG])).trans (List.map_id l);rw [this]
section
variable {p c:Int} {core:List (List Sp)} {odd:List Gn}
theorem zC {l:List Sp} {x:Int}:wP l x=true↔∃ s∈l,s.f0≤x∧x≤s.f1:=wF
def thV (p c:Int) (core:List (List Sp)) (odd:List Gn) (i:Int):List Sp:=(jJ p c core odd i).1
theorem aaA (h:SF p c core odd) (i:Int):(Ex p c core odd i∧jJ p c core odd i=(gT p c core odd i,0)∧gT p c core odd i≠[])∨(¬ Ex p c core odd i∧(jJ p c core odd i).1=[]):=by
  by_cases e:Ex p c core odd i
  · exact .inl ⟨e,h.pF e,(kW e.n).1⟩
  · refine .inr ⟨e,?_⟩
    by_cases hn:fs c core odd i=[]
    · unfold jJ;split
      · simp [hn]
      · rfl
    · rw [h.abP hn e]
theorem wI {α:Type} (f:α→Int) (b:Int):∀ {l:List α},(∀ x∈l,f x≤b)→(l.map f).sum≤l.length*b
  | [],_=>by simp
  | x :: r,h=>by
    have:=wI f b (l:=r) (fun y hy=>h y (by simp [hy]));have:=h x (by simp);rw [List.map_cons,List.sum_cons,List.length_cons];rw [Int.natCast_add,Int.add_mul];omega
theorem rG {α:Type} (f:α→Int) (h0:∀ x,0≤f x):∀ {l:List α} {x:α},x∈l→f x≤(l.map f).sum
  | [],x,h=>by cases h
  | y :: r,x,h=>by
    have hs:0≤(r.map f).sum:=oG (fun z hz=>by obtain ⟨a,_,rfl⟩:=List.mem_map.1 hz;exact h0 a);rw [List.map_cons,List.sum_cons];rcases List.mem_cons.1 h with rfl | h
    · omega
    · have:=rG f h0 h
      have:=h0 y;omega
theorem ae7 (h:SF p c core odd):lM core odd≤9223372036854775807:=by
  have h1:=wI (fun l:List Sp=>(l.length:Int)) 2199023255553 (l:=core) (fun l hl=>by have:=SL.len (lo:=0) (h.hcore l hl);omega);have h2:=wI (fun g:Gn=>(g.f1.length:Int)) 2199023255553 (l:=odd) (fun g hg=>by have:=SL.len (lo:=0) (h.hodd g hg);omega);have:=h.hl;have:=h.hlo;unfold lM;omega
theorem agp (h:SF p c core odd) (i:Int):((fs c core odd i).length:Int)≤lM core odd:=by
  have n1:0≤(core.map fun l:List Sp=>(l.length:Int)).sum:=oG (fun z hz=>by obtain ⟨a,_,rfl⟩:=List.mem_map.1 hz;omega);have n2:0≤(odd.map fun g:Gn=>(g.f1.length:Int)).sum:=oG (fun z hz=>by obtain ⟨a,_,rfl⟩:=List.mem_map.1 hz;omega);unfold lM;unfold fs;cases ho:jh odd i with
  | some l =>
    obtain ⟨g,hg,_,e⟩:=jF ho;have:=rG (fun g:Gn=>(g.f1.length:Int)) (fun _=>by omega) hg;simp only [e] at this;simp only;omega
  | none =>
    by_cases hc:c=0
    · simp only [gJ,if_pos hc];simp;omega
    · have:=rG (fun l:List Sp=>(l.length:Int)) (fun _=>by omega) (h.jM i hc)
      simp only at this ⊢;omega
theorem ad6 (h:SF p c core odd) (i:Int):((gT p c core odd i).length:Int)≤lM core odd:=by
  have:=agp h i;unfold gT;rw [List.length_map];exact this
end
variable [Inhabited WT]
variable {p c:Int} {core:List (List Sp)} {odd:List Gn}
theorem aaB (m:MF core odd):∃ b,Ev (fun k=>gD.f k p c core odd) b∧(b=true→FOK p c core odd∧GR p c core odd∧core.length≤12∧odd.length≤8∧lM core odd≤60):=by
  have wrong:∀ {P:Prop},false=true→P:=fun e=>by cases e
  unfold gD.f;by_cases hl:(core.length:Int)≤12
  case neg=>exact ⟨false,Ev.bind (a:=false) (Ev.congr (f:=fun _=>some false) (fun k=>by simp [fK.f,hl]) (Ev.now _)) (Ev.now _),wrong⟩
  by_cases hlo:(odd.length:Int)≤8
  case neg=>exact ⟨false,Ev.bind (a:=false) (Ev.congr (f:=fun _=>some false) (fun k=>by simp [fK.f,hl,hlo]) (Ev.now _)) (Ev.now _),wrong⟩
  obtain ⟨n,⟨n1,n2⟩,e,e1,e2,e3,e4⟩:=mM (p:=p) (c:=c) m (by omega) (by omega);have hs:Ev (fun k=>fK.f k p c core odd) (decide (n≤60)):=by
    simp only [fK.f,decide_eq_true_eq,hl,hlo,if_true];exact Ev.bind n1 (Ev.now _)
  by_cases hn:n≤60
  · refine ⟨decide (e=0),Ev.bind hs (Ev.yes (by simpa using hn) (Ev.bind e1 (Ev.now _))),fun he => ?_⟩
    have:=e4.1 (by simpa using he);exact ⟨this.2.fok,this.2,by omega,by omega,by have:=n2 (ae7 this.2.s);omega⟩
  · exact ⟨false,Ev.bind hs (Ev.no (by simpa using hn) (Ev.now _)),wrong⟩
end Go.Proofs.YtcomnjodjijcmaaGreat.Q
namespace Go.Proofs.YtcomnjodjijcmaaGreat.Q
set_option linter.unusedVariables false
set_option linter.unusedSimpArgs false
open Go.RowKit Go.Proofs.YtcomnjodjijcmaaGreatW.dA Go.Proofs.YtcomnjodjijcmaaGreatW.eD M R P
section
variable {p c:Int} {core:List (List Sp)} {odd:List Gn}
def mvT (l:List Sp):List Sp × Int:=if l.all (okM 0) then (l,0) else ([],20)
theorem qx (n:Int) (l:List Sp):mK n l=mvT (l.map (fG n)):=by
  unfold mK mvT;have:(l.map (fG n)).all (okM 0)=l.all (okM n):=by
    rw [List.all_map];congr 1;funext s;simp [okM,fG]
  rw [this]
theorem mP (i:Int):jJ p c core odd i=if inR i then (if gT p c core odd i=[] then ([],0) else mvT (gT p c core odd i)) else ([],20):=by
  unfold jJ gT;by_cases hr:inR i
  · rw [if_pos hr,if_pos hr]
    by_cases hz:fs c core odd i=[]
    · rw [if_pos hz,if_pos (by rw [hz];rfl)]
    · rw [if_neg hz,if_neg (by simpa using hz),qx]
  · rw [if_neg hr,if_neg hr]
theorem lq {i:Int} (h:jh odd i=none):gT p c core odd i=gT p c core [] i:=by
  unfold gT fs fb;rw [h];simp [jh]
theorem nU {i:Int} {l:List Sp} (h:jh odd i=some l):gT p c core odd i=l:=by
  unfold gT fs fb;rw [h];exact jy l
theorem kP {p' c':Int} {fq:List (List Sp)} {jA:List Gn} {i:Int} (h:gT p c core odd i=gT p' c' fq jA i):jJ p c core odd i=jJ p' c' fq jA i:=by
  rw [mP,mP,h]
theorem xX.ae8 (h:SF p c core odd) {r:P.S25} (s:xX p core odd r) (i:Int):jJ r.f0 r.f1 r.f2 r.f3 i=jJ p c core odd i:=by
  have ho:=s.o;have hup:r.f3.Pairwise (fun a b=>a.f0<b.f0):=by rw [ho];exact h.hup.filter _
  have bare:gT r.f0 r.f1 r.f2 [] i=gT p c core [] i:=s.c.ticks h i;cases hi:jh odd i with
  | none =>
    have hn:jh r.f3 i=none:=jv.2 (fun g hg e=>by
      rw [ho] at hg;exact jv.1 hi g (List.mem_filter.1 hg).1 e)
    exact kP (by rw [lq hn,lq hi,bare])
  | some l =>
    obtain ⟨g,g1,g2,g3⟩:=jF hi;cases hp:jW r.f0 r.f1 r.f2 g with
    | false =>
      have hg:g∈r.f3:=by rw [ho];exact List.mem_filter.2 ⟨g1,by simp [hp]⟩
      have:=lJ hup hg;rw [g2,g3] at this;exact kP (by rw [nU this,nU hi])
    | true =>
      have hn:jh r.f3 i=none:=jv.2 (fun g' hg e=>by
        rw [ho] at hg;obtain ⟨m1,m2⟩:=List.mem_filter.1 hg;have e1:=lJ h.hup m1;rw [e,hi] at e1;have e2:g'=g:=by
          cases g' with
          | mk a b =>
            cases g with
            | mk a' b' =>
              simp only at e g2 g3 e1;have:b=b':=by rw [g3];exact (Option.some.inj e1).symm
              rw [e,g2,this]
        rw [e2,hp] at m2;cases m2)
      have q:=nA.1 hp;rw [g2,g3] at q;have e1:jJ r.f0 r.f1 r.f2 r.f3 i=(l,0):=by rw [kP (lq hn)];exact q
      have hr:inR i:=by rw [← g2];exact h.hidx g g1
      have hS:SL (-1099511627776) 1099511627776 l:=by rw [← g3];exact h.hodd g g1
      have e2:jJ p c core odd i=(l,0):=by
        rw [mP,if_pos hr,nU hi];by_cases z:l=[]
        · rw [if_pos z,z]
        · rw [if_neg z]
          have:=pG hS;rw [qx,jy] at this;exact this
      rw [e1,e2]
end
end Go.Proofs.YtcomnjodjijcmaaGreat.Q
namespace Go.Proofs.YtcomnjodjijcmaaGreat.Q
set_option linter.unusedVariables false
set_option linter.unusedSimpArgs false
open Go.RowKit Go.Proofs.YtcomnjodjijcmaaGreatW.dA Go.Proofs.YtcomnjodjijcmaaGreatW.eD M R P
section
variable {p c:Int} {core:List (List Sp)} {odd:List Gn}
theorem adA {l m:List Sp} (h:mvT l=(m,0)):l=m:=by
  unfold mvT at h;split at h
  · exact (Prod.mk.inj h).1
  · have:=(Prod.mk.inj h).2;cases this
theorem xX.adB (h:SF p c core odd) {r:P.S25} (s:xX p core odd r) (i:Int):gT r.f0 r.f1 r.f2 r.f3 i=gT p c core odd i:=by
  by_cases hr:inR i
  · have e:=s.ae8 h i
    rw [mP,mP,if_pos hr,if_pos hr] at e;have ho:=s.o;have hup:r.f3.Pairwise (fun a b=>a.f0<b.f0):=by rw [ho];exact h.hup.filter _
    have bare:gT r.f0 r.f1 r.f2 [] i=gT p c core [] i:=s.c.ticks h i;cases hi:jh odd i with
    | none =>
      have hn:jh r.f3 i=none:=jv.2 (fun g hg e=>by
        rw [ho] at hg;exact jv.1 hi g (List.mem_filter.1 hg).1 e)
      rw [lq hn,lq hi,bare]
    | some l =>
      obtain ⟨g,g1,g2,g3⟩:=jF hi;have hS:SL (-1099511627776) 1099511627776 l:=by rw [← g3];exact h.hodd g g1
      have e2:(if gT p c core odd i=[] then (([],0):List Sp × Int) else mvT (gT p c core odd i))=(l,0):=by
        rw [nU hi];by_cases z:l=[]
        · rw [if_pos z,z]
        · rw [if_neg z]
          have:=pG hS;rw [qx,jy] at this;exact this
      rw [e2] at e;rw [nU hi];by_cases z:gT r.f0 r.f1 r.f2 r.f3 i=[]
      · rw [if_pos z] at e
        rw [z];exact (Prod.mk.inj e).1
      · rw [if_neg z] at e
        exact adA e
  · have hno:∀ {o:List Gn},(∀ g∈o,g∈odd)→jh o i=none:=fun {o} ho=>jv.2 (fun g hg e=>hr (by rw [← e];exact h.hidx g (ho g hg)))
    rw [lq (hno (fun g hg=>by rw [s.o] at hg;exact (List.mem_filter.1 hg).1)),lq (hno (fun g hg=>hg))];exact s.c.ticks h i
theorem xX.sf (h:SF p c core odd) {r:P.S25} (s:xX p core odd r):SF r.f0 r.f1 r.f2 r.f3:=by
  obtain ⟨b,_⟩:=s.c.sf h;have hin:∀ g∈r.f3,g∈odd:=fun g hg=>by rw [s.o] at hg;exact (List.mem_filter.1 hg).1
  refine ⟨b.hc,b.hp0,b.hp1,b.hz,b.hcore,fun g hg=>h.hodd g (hin g hg),fun g hg=>h.hidx g (hin g hg),?_,b.hl,?_⟩
  · rw [s.o];exact h.hup.filter _
  · rw [s.o]
    have:=List.length_filter_le (fun g => !jW r.f0 r.f1 r.f2 g) odd;have:=h.hlo;omega
theorem l8 {i:Int}:fs c core odd i≠[]↔gT p c core odd i≠[]:=by simp [gT]
theorem adx.tf (h:SF p c core odd) (t:TF p core) {r:P.S25} (s:adx p core r):TF r.f0 r.f2:=by
  by_cases hb:∀ l∈core,l=[]
  · rw [s.e hb]
    exact ⟨List.Pairwise.nil,fun a ha=>by cases ha⟩
  · obtain ⟨s1,_⟩:=s.sf h
    obtain ⟨d,q,_,rfl⟩:=s.n hb;have hlen:0<core.length:=by
      cases core with
      | nil=>exact absurd (fun l hl=>by cases hl) hb
      | cons a t=>simp
    have hdl:d≤core.length:=Nat.le_of_dvd hlen q.d1;have hd0:=q.d0;refine ⟨List.Pairwise.sublist (List.take_sublist _ _) t.ta,fun a ha b hb' na nb => ?_⟩;obtain ⟨i,hi,rfl⟩:=List.getElem_of_mem ha;obtain ⟨j,hj,rfl⟩:=List.getElem_of_mem hb';simp only [List.length_take] at hi hj;simp only [List.getElem_take] at na nb ⊢;have hi2:i<core.length:=by omega
    have hj2:j<core.length:=by omega
    have Bi:=mO h 0 i hi2;have Bj:=mO h 0 j hj2;rw [Int.zero_mul,Int.zero_add,Int.zero_mul,jy] at Bi Bj;have aa:=uL h hd0 hdl q.tn (j:Int);rw [Bj] at aa;have ni:fs c core [] (i:Int)≠[]:=(l8 (p:=p)).2 (by rw [oH,Bi];exact na);have nj:fs c core [] ((j:Int)+d)≠[]:=(l8 (p:=p)).2 (by rw [oH,aa];simpa using nb);have o:=ads (odd:=odd) h t (show (i:Int)<(j:Int)+d by omega) ni nj;have gi:=(kW (p:=p) ni).2.2;have gj:=(kW (p:=p) nj).2.1;rw [oH,Bi] at gi;rw [oH,aa,o9 _ _ nb] at gj;omega
theorem xX.fok (h:FOK p c core odd) {r:P.S25} (s:xX p core odd r):FOK r.f0 r.f1 r.f2 r.f3:=by
  refine ⟨s.sf h.s,s.c.tf h.s h.t,fun i k hik ri rk ni nk => ?_⟩;have ei:=s.adB h.s i;have ek:=s.adB h.s k;have ni':fs c core odd i≠[]:=(l8 (p:=p)).2 (by rw [← ei];exact (l8 (p:=r.f0)).1 ni);have nk':fs c core odd k≠[]:=(l8 (p:=p)).2 (by rw [← ek];exact (l8 (p:=r.f0)).1 nk);have o:=h.ord i k hik ri rk ni' nk';have a1:=(kW (p:=p) ni').2.2;have a2:=(kW (p:=p) nk').2.1;have b1:=(kW (p:=r.f0) ni).2.2;have b2:=(kW (p:=r.f0) nk).2.1;rw [ei] at b1;rw [ek] at b2;omega
end
end Go.Proofs.YtcomnjodjijcmaaGreat.Q
namespace Go.Proofs.YtcomnjodjijcmaaGreat.Q
set_option linter.unusedVariables false
set_option linter.unusedSimpArgs false
open Go.RowKit Go.Proofs.YtcomnjodjijcmaaGreatW.dA Go.Proofs.YtcomnjodjijcmaaGreatW.eD M R P
section
variable {p c:Int} {core:List (List Sp)} {odd:List Gn}
def Stp (B:Int→List Sp) (a:Nat) (n:Int):Prop:=∀ i,B (i+a)=(B i).map (fG n)
theorem rH (n:Int) {l m:List Sp} (h:l.map (fG n)=m.map (fG n)):l=m:=by
  have:=congrArg (fun x=>x.map (fG (-n))) h;simpa only [aav] using this
theorem Stp.sub {B:Int→List Sp} {a b:Nat} {n m:Int} (h:a≤b) (s:Stp B a n) (t:Stp B b m):Stp B (b - a) (m - n):=fun i=>by
  have e1:=s (i+((b - a:Nat):Int));have e2:i+((b - a:Nat):Int)+(a:Int)=i+b:=by omega
  rw [e2,t i] at e1;refine rH n ?_;rw [← e1,jB];congr 2;omega
theorem agq {B:Int→List Sp}:∀ (s a b:Nat) (n m:Int),a+b≤s→1≤a→1≤b→Stp B a n→Stp B b m→∃ k,Stp B (Nat.gcd a b) k:=by
  intro s;induction s with
  | zero=>intro a b n m h ha hb _ _;omega
  | succ s ih =>
    intro a b n m h ha hb sa sb;rcases Nat.lt_trichotomy a b with g | g | g
    · obtain ⟨k,hk⟩:=ih a (b - a) n (m - n) (by omega) ha (by omega) sa (Stp.sub (by omega) sa sb)
      refine ⟨k,?_⟩;have:Nat.gcd a (b - a)=Nat.gcd a b:=by
        have e:b=(b - a)+a:=by omega
        conv=>rhs;rw [e]
        rw [Nat.gcd_add_self_right]
      rw [← this];exact hk
    · subst g
      exact ⟨n,by rw [Nat.gcd_self];exact sa⟩
    · obtain ⟨k,hk⟩:=ih (a - b) b (n - m) m (by omega) (by omega) hb (Stp.sub (by omega) sb sa) sb
      refine ⟨k,?_⟩;have:Nat.gcd (a - b) b=Nat.gcd a b:=by
        have e:a=(a - b)+b:=by omega
        conv=>rhs;rw [e]
        rw [Nat.gcd_add_self_left]
      rw [← this];exact hk
theorem kX (h:SF p c core odd) (h0:0<core.length):Stp (bT p c core) core.length p:=fun i=>by
  have:=uL h h0 (Nat.le_refl _) (ab5 (p:=p) h0).tn i;rw [Nat.div_self h0] at this;simpa using this
theorem ae9 (h:SF p c core odd) {d:Nat} {n:Int} (hd0:1≤d) (hd:d≤core.length) (s:Stp (bT p c core) d n):xV p core d n:=by
  intro i hi;have Bi:=mO h 0 i hi;rw [Int.zero_mul,Int.zero_add,Int.zero_mul,jy] at Bi;have st:=s (i:Int);rw [Bi] at st;refine ⟨fun g => ?_,fun g g2 => ?_⟩
  · have B2:=mO h 0 (i+d) g
    rw [Int.zero_mul,Int.zero_add,Int.zero_mul,jy] at B2;rw [← B2,← st];congr 1
  · have B2:=mO h 1 _ g2
    have hc:=h.hc;have e:(1:Int)*c+((i+d - core.length:Nat):Int)=(i:Int)+d:=by omega
    rw [e,st,Int.one_mul] at B2;refine rH p ?_;rw [← B2,jB];congr 2;omega
theorem uM {B:Int→List Sp} {a:Nat} {n:Int} (s:Stp B a n) (i:Int):∀ q:Nat,B (i+q*a)=(B i).map (fG (q*n)):=by
  intro q;induction q with
  | zero=>simp [jy]
  | succ q ih =>
    have e:i+((q+1:Nat):Int)*a=(i+q*a)+a:=by rw [Int.natCast_add,Int.add_mul];simp;omega
    rw [e,s,ih,jB];congr 2;rw [Int.natCast_add,Int.add_mul];simp
theorem rJ {l:List Sp} (hl:l≠[]) {n m:Int} (h:l.map (fG n)=l.map (fG m)):n=m:=by
  cases l with
  | nil=>exact absurd rfl hl
  | cons s t =>
    have:=(List.cons.inj h).1;have:=congrArg (fun x:Sp=>x.f0) this;simp only [fG] at this;omega
theorem ab7 (h:SF p c core odd) (h0:0<core.length) {i0:Int} (hne:bT p c core i0≠[]) {d:Nat} {n:Int} (hd0:1≤d) (hdv:d ∣ core.length) (s:Stp (bT p c core) d n):Rep p core d:=by
  obtain ⟨m,hm⟩:=hdv;have e1:=uM s i0 m;have e2:=kX h h0 i0;have e3:i0+(m:Int)*d=i0+(core.length:Int):=by rw [hm,Int.natCast_mul,Int.mul_comm]
  rw [e3,e2] at e1;have e4:=rJ hne e1;have e5:core.length / d=m:=by rw [hm];exact Nat.mul_div_cancel_left _ (by omega)
  have m0:(m:Int)≠0:=by
    intro e;have:m=0:=by omega
    rw [this] at hm;omega
  refine ⟨hd0,⟨m,hm⟩,by rw [e5];exact ⟨n,e4⟩,?_⟩;have e6:p / (((core.length / d:Nat):Int))=n:=by rw [e5,e4];exact Int.mul_ediv_cancel_left _ m0
  rw [e6];exact ae9 h hd0 (Nat.le_of_dvd h0 ⟨m,hm⟩) s
theorem adC {p' c':Int} {fq:List (List Sp)} {jA:List Gn} (h:SF p c core odd) (h':SF p' c' fq jA) (mn:∀ d,d<core.length→¬ Rep p core d) (aa:∀ d,d<fq.length→¬ Rep p' fq d) (h0:0<core.length) (h0':0<fq.length) {i0:Int} (hne:bT p c core i0≠[]) (heq:∀ i,bT p c core i=bT p' c' fq i):p=p'∧c=c'∧core=fq:=by
  have hB:bT p c core=bT p' c' fq:=funext heq;have s1:=kX h h0;have s2:=kX h' h0';rw [← hB] at s2;obtain ⟨k,hk⟩:=agq _ _ _ _ _ (Nat.le_refl _) h0 h0' s1 s2;have g0:1≤Nat.gcd core.length fq.length:=Nat.gcd_pos_of_pos_left _ h0;have r1:=ab7 h h0 hne g0 (Nat.gcd_dvd_left _ _) hk;have r2:=ab7 h' h0' (by rw [← heq];exact hne) g0 (Nat.gcd_dvd_right _ _) (by rw [← hB];exact hk);have l1:=Nat.le_of_dvd h0 (Nat.gcd_dvd_left core.length fq.length);have l2:=Nat.le_of_dvd h0' (Nat.gcd_dvd_right core.length fq.length);have e1:Nat.gcd core.length fq.length=core.length:=by
    rcases Nat.lt_or_eq_of_le l1 with g | g
    · exact absurd r1 (mn _ g)
    · exact g
  have e2:Nat.gcd core.length fq.length=fq.length:=by
    rcases Nat.lt_or_eq_of_le l2 with g | g
    · exact absurd r2 (aa _ g)
    · exact g
  have e3:core.length=fq.length:=by omega
  have hp:p=p':=by
    have a1:=s1 i0;have a2:=s2 i0;rw [← e3,a1] at a2;exact rJ hne a2
  refine ⟨hp,by rw [h.hc,h'.hc,e3],List.ext_getElem e3 (fun j h1 h2 => ?_)⟩;have b1:=mO h 0 j h1;have b2:=mO h' 0 j h2;rw [Int.zero_mul,Int.zero_add,Int.zero_mul,jy] at b1 b2;rw [← b1,← b2,heq]
end
end Go.Proofs.YtcomnjodjijcmaaGreat.Q
namespace Go.Proofs.YtcomnjodjijcmaaGreat.Q
set_option linter.unusedVariables false
set_option linter.unusedSimpArgs false
open Go.RowKit Go.Proofs.YtcomnjodjijcmaaGreatW.dA Go.Proofs.YtcomnjodjijcmaaGreatW.eD M R P
section
variable {p c:Int} {core:List (List Sp)} {odd:List Gn}
theorem mQ {B:Int→List Sp} {a:Nat} {n:Int} (s:Stp B a n) (i q:Int):B (i+q*a)=(B i).map (fG (q*n)):=by
  rcases Int.le_total 0 q with g | g
  · obtain ⟨k,rfl⟩:∃ k:Nat,q=(k:Int):=⟨q.toNat,by omega⟩
    exact uM s i k
  · obtain ⟨k,rfl⟩:∃ k:Nat,q = -(k:Int):=⟨(-q).toNat,by omega⟩
    have:=uM s (i + -(k:Int)*a) k;have e:i + -(k:Int)*a+(k:Int)*a=i:=by rw [Int.neg_mul];omega
    rw [e] at this;rw [this,jB];have e2:(k:Int)*n + -(k:Int)*n=0:=by rw [Int.neg_mul];omega
    rw [e2,jy]
theorem xY {B:Int→List Sp} {a:Nat} {n:Int} (s:Stp B a n) (m:Nat):Stp B (m*a) (m*n):=fun i=>by
  have:=uM s i m;rw [Int.natCast_mul];exact this
theorem afa {B C:Int→List Sp} {a:Nat} {n:Int} (ha:1≤a) (s:Stp B a n) (t:Stp C a n) {x:Int} (w:∀ i,x<i→i≤x+a→B i=C i) (i:Int):B i=C i:=by
  have h1:=Int.emod_nonneg (i - x - 1) (show (a:Int)≠0 by omega);have h2:=Int.emod_lt_of_pos (i - x - 1) (show (0:Int)<a by omega);have h3:=Int.mul_ediv_add_emod (i - x - 1) a;have b:=mQ s i (-((i - x - 1) / a));have d:=mQ t i (-((i - x - 1) / a));have e:i + -((i - x - 1) / (a:Int))*(a:Int)=x+1+(i - x - 1) % a:=by
    rw [Int.neg_mul,Int.mul_comm];omega
  rw [e] at b d;have q:=w (x+1+(i - x - 1) % a) (by omega) (by omega);rw [b,d] at q;exact rH _ q
theorem adD {p' c':Int} {fq:List (List Sp)} {jA:List Gn} (h:SF p c core odd) (h':SF p' c' fq jA) (h0:0<core.length) (h0':0<fq.length) (ne:¬ ∀ l∈core,l=[]) {x:Int} (w:∀ i,x<i→i≤x+2*((fq.length*core.length:Nat):Int)→bT p c core i=bT p' c' fq i):∀ i,bT p c core i=bT p' c' fq i:=by
  have s1:=xY (kX h h0) fq.length;have s2:=xY (kX h' h0') core.length;rw [Nat.mul_comm] at s2;have hpos:1≤fq.length*core.length:=Nat.mul_pos h0' h0;obtain ⟨i0,i1,i2,i3⟩:∃ i0,x<i0∧i0≤x+((fq.length*core.length:Nat):Int)∧bT p c core i0≠[]:=by
    refine Classical.byContradiction fun hno=>ne fun l hl => ?_;obtain ⟨j,hj,rfl⟩:=List.getElem_of_mem hl;refine Classical.byContradiction fun hn=>hno ?_;have hc:=h.hc;have h1:=Int.emod_nonneg ((j:Int) - x - 1) (show (core.length:Int)≠0 by omega);have h2:=Int.emod_lt_of_pos ((j:Int) - x - 1) (show (0:Int)<core.length by omega);have h3:=Int.mul_ediv_add_emod ((j:Int) - x - 1) core.length;have hle:core.length≤fq.length*core.length:=Nat.le_mul_of_pos_left _ h0';refine ⟨x+1+((j:Int) - x - 1) % core.length,by omega,by omega,?_⟩;have e:x+1+((j:Int) - x - 1) % core.length=(-(((j:Int) - x - 1) / core.length))*c+(j:Int):=by
      rw [hc,Int.neg_mul,Int.mul_comm];omega
    rw [e,mO h _ j hj];simpa using hn
  have a1:=s1 i0;have a2:=s2 i0;have q0:=w i0 i1 (by omega);have q1:=w (i0+((fq.length*core.length:Nat):Int)) (by omega) (by omega);rw [a1,a2,← q0] at q1;have hn:=rJ i3 q1;rw [← hn] at s2;exact afa hpos s1 s2 (fun i b1 b2=>w i b1 (by omega))
end
end Go.Proofs.YtcomnjodjijcmaaGreat.Q
namespace Go.Proofs.YtcomnjodjijcmaaGreat.Q
set_option linter.unusedVariables false
set_option linter.unusedSimpArgs false
open Go.RowKit Go.Proofs.YtcomnjodjijcmaaGreatW.dA Go.Proofs.YtcomnjodjijcmaaGreatW.eD M R P
section
variable {p c:Int} {core:List (List Sp)} {odd:List Gn}
theorem zD (h:SF p c core odd) {g:Gn} (hg:g∈odd):jJ p c core odd g.f0=(g.f1,0):=by
  rw [mP,if_pos (h.hidx g hg),nU (lJ h.hup hg)];by_cases z:g.f1=[]
  · rw [if_pos z,z]
  · rw [if_neg z]
    have:=pG (h.hodd g hg);rw [qx,jy] at this;exact this
theorem ab8 {jA:List Gn} (h:SF p c core odd) (h':SF p c core jA) (np:∀ g∈odd,jW p c core g=false) (eq:∀ i,inR i→jJ p c core odd i=jJ p c core jA i):∀ g∈odd,g∈jA:=by
  intro g hg;have e:=eq g.f0 (h.hidx g hg);rw [zD h hg] at e;cases ho:jh jA g.f0 with
  | none =>
    have q:jJ p c core [] g.f0=(g.f1,0):=by rw [e];exact kP (lq ho).symm
    have:=nA.2 q;rw [np g hg] at this;cases this
  | some l =>
    obtain ⟨g',g1,g2,g3⟩:=jF ho;have e2:=zD h' g1;rw [g2,← e] at e2;have e3:g.f1=g'.f1:=(Prod.mk.inj e2).1;have:g=g':=by
      cases g with
      | mk a b =>
        cases g' with
        | mk a' b' =>
          simp only at g2 e3;rw [g2,e3]
    rw [this];exact g1
theorem sQ:∀ {a b:List Gn},a.Pairwise (fun x y=>x.f0<y.f0)→b.Pairwise (fun x y=>x.f0<y.f0)→(∀ g∈a,g∈b)→(∀ g∈b,g∈a)→a=b
  | [],[],_,_,_,_=>rfl
  | [],y :: u,_,_,_,h=>by have:=h y (by simp);cases this
  | x :: t,[],_,_,h,_=>by have:=h x (by simp);cases this
  | x :: t,y :: u,ha,hb,h1,h2=>by
    obtain ⟨a1,a2⟩:=List.pairwise_cons.1 ha;obtain ⟨b1,b2⟩:=List.pairwise_cons.1 hb;have hxy:x=y:=by
      rcases List.mem_cons.1 (h1 x (by simp)) with e | e
      · exact e
      · rcases List.mem_cons.1 (h2 y (by simp)) with f | f
        · exact f.symm
        · have:=a1 y f
          have:=b1 x e;omega
    subst hxy;congr 1;refine sQ a2 b2 (fun g hg => ?_) (fun g hg => ?_)
    · rcases List.mem_cons.1 (h1 g (by simp [hg])) with e | e
      · have:=a1 g hg
        rw [e] at this;omega
      · exact e
    · rcases List.mem_cons.1 (h2 g (by simp [hg])) with e | e
      · have:=b1 g hg
        rw [e] at this;omega
      · exact e
theorem afb {jA:List Gn} (h:SF p c core odd) (h':SF p c core jA) (np:∀ g∈odd,jW p c core g=false) (aa:∀ g∈jA,jW p c core g=false) (eq:∀ i,inR i→jJ p c core odd i=jJ p c core jA i):odd=jA :=
  sQ h.hup h'.hup (ab8 h h' np eq) (ab8 h' h aa (fun i hi=>(eq i hi).symm))
end
end Go.Proofs.YtcomnjodjijcmaaGreat.Q
namespace Go.Proofs.YtcomnjodjijcmaaGreat.Q
set_option linter.unusedVariables false
set_option linter.unusedSimpArgs false
open Go.RowKit Go.Proofs.YtcomnjodjijcmaaGreatW.dA Go.Proofs.YtcomnjodjijcmaaGreatW.eD M R P
section
variable {p c:Int} {core:List (List Sp)} {odd:List Gn}
structure Can (p c:Int) (core:List (List Sp)) (odd:List Gn):Prop where
  s:SF p c core odd
  mn:∀ d,d<core.length→¬ Rep p core d
  nb:core≠[]→¬ ∀ l∈core,l=[]
  np:∀ g∈odd,jW p c core g=false
theorem ab9 {i:Int} (h:core=[]):bT p c core i=[]:=by
  subst h;unfold bT gJ;split <;> simp
theorem xX.can (h:SF p c core odd) {r:P.S25} (s:xX p core odd r):Can r.f0 r.f1 r.f2 r.f3:=by
  have aa:∀ i,bT r.f0 r.f1 r.f2 i=bT p c core i:=fun i=>by rw [← oH,← oH];exact s.c.ticks h i
  have np:∀ g∈r.f3,jW r.f0 r.f1 r.f2 g=false:=fun g hg=>by
    rw [s.o] at hg;have:=(List.mem_filter.1 hg).2;simpa using this
  obtain ⟨sb,_⟩:=s.c.sf h;have sb':SF r.f0 r.f1 r.f2 []:=sb;by_cases hb:∀ l∈core,l=[]
  · have e:=s.c.e hb
    have e2:r.f2=[]:=congrArg (fun x:P.S25=>x.f2) e;exact ⟨s.sf h,fun d hd=>by rw [e2] at hd;simp at hd,fun hn=>absurd e2 hn,np⟩
  · obtain ⟨d,q,mn,e⟩:=s.c.n hb
    have hlen:0<core.length:=by
      cases core with
      | nil=>exact absurd (fun l hl=>by cases hl) hb
      | cons a t=>simp
    have hdl:d≤core.length:=Nat.le_of_dvd hlen q.d1;have e2:r.f2=core.take d:=congrArg (fun x:P.S25=>x.f2) e;have el:r.f2.length=d:=by rw [e2,List.length_take];omega
    obtain ⟨i0,hi0⟩:∃ i0,bT p c core i0≠[]:=by
      refine Classical.byContradiction fun hno=>hb fun l hl => ?_;obtain ⟨j,hj,rfl⟩:=List.getElem_of_mem hl;refine Classical.byContradiction fun hn=>hno ⟨0*c+j,?_⟩;rw [mO h 0 j hj];simpa using hn
    refine ⟨s.sf h,fun d' hd' hr => ?_,fun _ hall => ?_,np⟩
    · rw [el] at hd'
      have st:Stp (bT p c core) d' (r.f0 / ((r.f2.length / d':Nat):Int)):=fun i=>by
        have:=uL sb' hr.d0 (by omega) hr.tn i;rw [aa,aa] at this;exact this
      have dv:d' ∣ core.length:=by
        have:=hr.d1;rw [el] at this;exact Nat.dvd_trans this q.d1
      exact mn d' hd' (ab7 h hlen hi0 hr.d0 dv st)
    · refine hi0 ?_
      rw [← aa];unfold bT;have:gJ r.f1 r.f2 i0=[]:=by
        refine Classical.byContradiction fun hn => ?_;obtain ⟨_,_,j,hj,_,e⟩:=uG sb' hn;rw [e] at hn;exact hn (hall _ (List.getElem_mem hj))
      rw [this];rfl
theorem afc {p' c':Int} {fq:List (List Sp)} {jA:List Gn} (a:Can p c core odd) (b:Can p' c' fq jA) {x L:Int} (h1:2*((fq.length*core.length:Nat):Int)≤L) (h2:(core.length:Int)≤L) (h3:(fq.length:Int)≤L) (w:∀ i,x<i→i≤x+L→bT p c core i=bT p' c' fq i) (eq:∀ i,inR i→jJ p c core odd i=jJ p' c' fq jA i):p=p'∧c=c'∧core=fq∧odd=jA:=by
  have hit:∀ {p c:Int} {core:List (List Sp)} {odd:List Gn},Can p c core odd→(core.length:Int)≤L→core≠[]→∃ i,x<i∧i≤x+L∧bT p c core i≠[]:=fun {p c core odd} a hl hn=>by
    refine Classical.byContradiction fun hno=>a.nb hn fun l hl2 => ?_;obtain ⟨j,hj,rfl⟩:=List.getElem_of_mem hl2;refine Classical.byContradiction fun hne=>hno ?_;have hc:=a.s.hc;have e1:=Int.emod_nonneg ((j:Int) - x - 1) (show (core.length:Int)≠0 by omega);have e2:=Int.emod_lt_of_pos ((j:Int) - x - 1) (show (0:Int)<core.length by omega);have e3:=Int.mul_ediv_add_emod ((j:Int) - x - 1) core.length;refine ⟨x+1+((j:Int) - x - 1) % core.length,by omega,by omega,?_⟩;have e:x+1+((j:Int) - x - 1) % core.length=(-(((j:Int) - x - 1) / core.length))*c+(j:Int):=by
      rw [hc,Int.neg_mul,Int.mul_comm];omega
    rw [e,mO a.s _ j hj];simpa using hne
  have cores:p=p'∧c=c'∧core=fq:=by
    by_cases n1:core=[]
    · by_cases n2:fq=[]
      · have c1:c=0:=by rw [a.s.hc,n1];rfl
        have c2:c'=0:=by rw [b.s.hc,n2];rfl
        exact ⟨by rw [a.s.hz.1 c1,b.s.hz.1 c2],by rw [c1,c2],by rw [n1,n2]⟩
      · obtain ⟨i,i1,i2,i3⟩:=hit b h3 n2
        rw [← w i i1 i2,ab9 n1] at i3;exact absurd rfl i3
    · by_cases n2:fq=[]
      · obtain ⟨i,i1,i2,i3⟩:=hit a h2 n1
        rw [w i i1 i2,ab9 n2] at i3;exact absurd rfl i3
      · have h0:=List.length_pos_iff.2 n1
        have h0':=List.length_pos_iff.2 n2;have all:=adD a.s b.s h0 h0' (a.nb n1) (x:=x) (fun i i1 i2=>w i i1 (by omega));obtain ⟨i,_,_,i3⟩:=hit a h2 n1;exact adC a.s b.s a.mn b.mn h0 h0' i3 all
  obtain ⟨rfl,rfl,rfl⟩:=cores;exact ⟨rfl,rfl,rfl,afb a.s b.s a.np b.np eq⟩
end
end Go.Proofs.YtcomnjodjijcmaaGreat.Q
namespace Go.Proofs.YtcomnjodjijcmaaGreat.Q
set_option linter.unusedVariables false
set_option linter.unusedSimpArgs false
open Go.RowKit Go.Proofs.YtcomnjodjijcmaaGreatW.dA Go.Proofs.YtcomnjodjijcmaaGreatW.eD M R P
section
variable {p c:Int} {core:List (List Sp)} {odd:List Gn}
theorem Bes.to {p' c':Int} {fq:List (List Sp)} {jA:List Gn} (e:∀ i,gT p' c' fq jA i=gT p c core odd i) {i:Int} (b:Bes p c core odd i):Bes p' c' fq jA i:=by
  have v:∀ k,jJ p' c' fq jA k=jJ p c core odd k:=fun k=>kP (e k);have n:∀ k,fs c' fq jA k≠[]→fs c core odd k≠[]:=fun k h=>(l8 (p:=p)).2 (by rw [← e k];exact (l8 (p:=p')).1 h);have z:∀ k,fs c' fq jA k=[]→fs c core odd k=[]:=fun k h=>by
    refine Classical.byContradiction fun h2 => ?_;have:=(l8 (p:=p)).1 h2;rw [← e k] at this;exact (l8 (p:=p')).2 this h
  have g:∀ j k,gap c' fq jA j k→gap c core odd j k:=fun j k h m a d=>z m (h m a d);refine ⟨by rw [v];exact b.he,fun k a1 a2 a3 a4 => ?_,fun k a1 a2 a3 a4 => ?_,fun j k a1 a2 a3 a4 a5 a6 a7 a8 => ?_⟩
  · rw [v,v];exact b.up k a1 a2 (n k a3) (g _ _ a4)
  · rw [v,v];exact b.dn k a1 a2 (n k a3) (g _ _ a4)
  · rw [v,v];exact b.ov j k a1 a2 a3 a4 (n j a5) (n k a6) (g _ _ a7) (g _ _ a8)
theorem xX.gr (h:GR p c core odd) {r:P.S25} (s:xX p core odd r):GR r.f0 r.f1 r.f2 r.f3 :=
  ⟨s.sf h.s,s.c.tf h.s h.t,fun g hg=>Bes.to (fun i=>s.adB h.s i) (h.b g (by rw [s.o] at hg;exact (List.mem_filter.1 hg).1))⟩
end
end Go.Proofs.YtcomnjodjijcmaaGreat.Q
namespace Go.Proofs.YtcomnjodjijcmaaGreat.Q
set_option linter.unusedVariables false
set_option linter.unusedSimpArgs false
open Go.RowKit Go.Proofs.YtcomnjodjijcmaaGreatW.dA Go.Proofs.YtcomnjodjijcmaaGreatW.eD M R P
section
variable {p c:Int} {core:List (List Sp)} {odd:List Gn}
end
end Go.Proofs.YtcomnjodjijcmaaGreat.Q
namespace Go.Proofs.YtcomnjodjijcmaaGreat.Q
set_option linter.unusedVariables false
set_option linter.unusedSimpArgs false
open Go.RowKit Go.Proofs.YtcomnjodjijcmaaGreatW.dA Go.Proofs.YtcomnjodjijcmaaGreatW.eD M R P
section
variable {p c:Int} {core:List (List Sp)} {odd:List Gn}
def okC (l:List Sp):Prop:=l≠[] → -200≤lu l∧lQ l≤200
def okO (g:Gn):Prop:=(-100≤g.f0∧g.f0≤100)∧(g.f1≠[] → -3000≤lu g.f1∧lQ g.f1≤3000)
structure mR (p c:Int) (core:List (List Sp)) (odd:List Gn):Prop where
  ok:FOK p c core odd
  gr:GR p c core odd
  lc:core.length≤12
  lo:odd.length≤8
  sz:lM core odd≤60
  p60:p≤60
  hc:∀ l∈core,okC l
  ho:∀ g∈odd,okO g
theorem ahO {i c:Int} (hi : -6000≤i∧i≤6000) (hc:0<c) : -6000≤i / c∧i / c≤6000:=by
  constructor
  · refine (Int.le_ediv_iff_mul_le hc).2 ?_
    have:(-6000:Int)*c ≤ -6000*1:=Int.mul_le_mul_of_nonpos_left (by omega) (by omega);omega
  · rcases Int.lt_or_le i 0 with h | h
    · have:=Int.ediv_neg_of_neg_of_pos h hc;omega
    · have:=Int.ediv_le_self c h;omega
theorem mR.bd (w:mR p c core odd) {i:Int} (hi : -6000≤i∧i≤6000) (hn:fs c core odd i≠[]) : -400000≤gLo p c core odd i∧gHi p c core odd i≤400000:=by
  unfold gLo gHi;cases ho:jh odd i with
  | some l =>
    obtain ⟨g,g1,g2,g3⟩:=jF ho;have hf:fs c core odd i=g.f1:=by unfold fs;rw [ho];exact g3.symm
    have hb:fb p c odd i=0:=by unfold fb;rw [ho]
    rw [hf] at hn;have:=(w.ho g g1).2 hn;rw [hf,hb];omega
  | none =>
    have hf:fs c core odd i=gJ c core i:=by unfold fs;rw [ho]
    have hb:fb p c odd i=i / c*p:=by unfold fb;rw [ho]
    rw [hf] at hn;obtain ⟨c0,p0,j,hj,j1,j2⟩:=uG w.ok.s hn;rw [hf,hb,j2];rw [j2] at hn;have:=w.hc _ (List.getElem_mem hj) hn;have q:=ahO hi c0;have p6:=w.p60;have h1:i / c*p≤6000*p:=Int.mul_le_mul_of_nonneg_right q.2 (by omega);have h2 : -6000*p≤i / c*p:=Int.mul_le_mul_of_nonneg_right q.1 (by omega);omega
theorem mR.ex (w:mR p c core odd) {i:Int} (hi : -6000≤i∧i≤6000) (hn:fs c core odd i≠[]):Ex p c core odd i:=by
  have:=w.bd hi hn;exact ⟨by unfold inR;omega,hn,by omega,by omega⟩
theorem mR.th (w:mR p c core odd) {i:Int} (hi : -6000≤i∧i≤6000):∀ s∈thV p c core odd i,-1000000≤s.f0∧s.f1≤1000000:=by
  intro s hs;rcases aaA w.ok.s i with ⟨e,e1,e2⟩ | ⟨e,e1⟩
  · have ev:thV p c core odd i=gT p c core odd i:=by unfold thV;rw [e1]
    rw [ev] at hs;have hS:=w.ok.s.ahL e;have b:=w.bd hi e.n;obtain ⟨g1,g2,g3⟩:=kW (p:=p) e.n;have t:=SL.ticks hS hs;have h1:=hS.rE (x:=s.f0) (zC.2 ⟨s,hs,Int.le_refl _,t.2.1⟩);have h2:=hS.rE (x:=s.f1) (zC.2 ⟨s,hs,t.2.1,Int.le_refl _⟩);omega
  · have ev:thV p c core odd i=[]:=e1
    rw [ev] at hs;cases hs
theorem uN {l:List Sp} (h:l≠[]):rY l=(lu l,lQ l,true):=by rw [adt,if_neg h]
end
variable [Inhabited WT]
variable {p c:Int} {core:List (List Sp)} {odd:List Gn}
theorem adE (h:∀ l∈core,l.length≤4611686018427387904) (hl:core.length≤6000):∀ (d n:Nat),core.length - n=d→n≤core.length→(∀ j (hj:j<core.length),j<n→okC core[j]) →
    ((∀ l∈core,okC l)∧∀ (Y:Nat→Option Bool) (v:Bool),Ev Y v→Ev (fun k=>dx.l0 (some false) (Y k) core (core.length:Int) k (n:Int)) v)∨∀ (Y:Nat→Option Bool),Ev (fun k=>dx.l0 (some false) (Y k) core (core.length:Int) k (n:Int)) false:=by
  intro d;induction d with
  | zero =>
    intro n hd hn hi;refine Or.inl ⟨fun l hl => ?_,fun Y v hY => ?_⟩
    · obtain ⟨j,hj,rfl⟩:=List.getElem_of_mem hl
      exact hi j hj (by omega)
    · have c1:¬ (n:Int)<(core.length:Int):=by omega
      refine Ev.step (fun k=>rfl) ?_;simp only [dx.l0,dx.l0T,decide_eq_true_eq,c1,if_false];exact Ev.shift hY
  | succ d ih =>
    intro n hd hn hi;have hlt:n<core.length:=by omega
    have c1:(n:Int)<(core.length:Int):=by omega
    have c2:(0:Int)≤(n:Int):=by omega
    have hrd:=rdL core n hlt;have hw:wq ((n:Int)+1)=((n+1:Nat):Int):=by rw [iX (by omega) (by omega)];simp
    have hh:∀ k,iE.f k core[n]=_:=fun k=>ad5 k core[n] (h _ (List.getElem_mem hlt));by_cases q:okC core[n]
    · have hi2:∀ j (hj:j<core.length),j<n+1→okC core[j]:=fun j hj hjn=>by
        rcases Nat.lt_or_ge j n with g | g
        · exact hi j hj g
        · have:j=n:=by omega
          subst this;exact q
      have go:∀ (Y:Nat→Option Bool) (v:Bool),Ev (fun k=>dx.l0 (some false) (Y (k+1)) core (core.length:Int) k ((n+1:Nat):Int)) v→Ev (fun k=>dx.l0 (some false) (Y k) core (core.length:Int) k (n:Int)) v:=fun Y v hY=>by
        refine Ev.step (fun k=>rfl) ?_;simp only [dx.l0,dx.l0T,decide_eq_true_eq,c1,c2,if_true,hrd,hw,hh,Option.bind_some];by_cases z:core[n]=[]
        · exact Ev.no (by simp [z,rY]) hY
        · have:=q z
          have e:=(uN z);simp only [e];exact Ev.yes trivial (Ev.no (by omega) (Ev.no (by omega) hY))
      rcases ih (n+1) (by omega) (by omega) hi2 with ⟨a,b⟩ | b
      · exact Or.inl ⟨a,fun Y v hY=>go Y v (b (fun k=>Y (k+1)) v (Ev.shift hY))⟩
      · exact Or.inr fun Y=>go Y false (b (fun k=>Y (k+1)))
    · refine Or.inr fun Y => ?_
      have z:core[n]≠[]:=fun e=>q (fun f=>absurd e f);refine Ev.step (fun k=>rfl) ?_;simp only [dx.l0,dx.l0T,decide_eq_true_eq,c1,c2,if_true,hrd,hw,hh,Option.bind_some,uN z];by_cases g:lu core[n] < -200
      · exact Ev.yes g (Ev.now _)
      · exact Ev.no g (Ev.yes (by
          refine Classical.byContradiction fun g2=>q (fun _=>by omega)) (Ev.now _))
theorem adF (h:∀ g∈odd,g.f1.length≤4611686018427387904) (hl:odd.length≤6000):∀ (d n:Nat),odd.length - n=d→n≤odd.length→(∀ j (hj:j<odd.length),j<n→okO odd[j]) →
    ∃ b,Ev (fun k=>dx.l1 (some false) (some true) odd (odd.length:Int) k (n:Int)) b∧(b=true→∀ g∈odd,okO g):=by
  intro d;induction d with
  | zero =>
    intro n hd hn hi;refine ⟨true,?_,fun _ g hg => ?_⟩
    · have c1:¬ (n:Int)<(odd.length:Int):=by omega
      refine Ev.step (fun k=>rfl) ?_;simp only [dx.l1,dx.l1T,decide_eq_true_eq,c1,if_false];exact Ev.now _
    · obtain ⟨j,hj,rfl⟩:=List.getElem_of_mem hg
      exact hi j hj (by omega)
  | succ d ih =>
    intro n hd hn hi;have hlt:n<odd.length:=by omega
    have c1:(n:Int)<(odd.length:Int):=by omega
    have c2:(0:Int)≤(n:Int):=by omega
    have hrd:=rdG odd n hlt;have hw:wq ((n:Int)+1)=((n+1:Nat):Int):=by rw [iX (by omega) (by omega)];simp
    have hh:∀ k,iE.f k odd[n].f1=_:=fun k=>ad5 k odd[n].f1 (h _ (List.getElem_mem hlt));by_cases q:okO odd[n]
    · have hi2:∀ j (hj:j<odd.length),j<n+1→okO odd[j]:=fun j hj hjn=>by
        rcases Nat.lt_or_ge j n with g | g
        · exact hi j hj g
        · have:j=n:=by omega
          subst this;exact q
      obtain ⟨b,b1,b2⟩:=ih (n+1) (by omega) (by omega) hi2;refine ⟨b,Ev.step (fun k=>rfl) ?_,b2⟩;simp only [dx.l1,dx.l1T,decide_eq_true_eq,c1,c2,if_true,hrd,hw,hh,Option.bind_some];have q1:=q.1;refine Ev.no (by omega) (Ev.no (by omega) ?_);by_cases z:odd[n].f1=[]
      · exact Ev.no (by simp [z,rY]) b1
      · have:=q.2 z
        simp only [uN z];exact Ev.yes trivial (Ev.no (by omega) (Ev.no (by omega) b1))
    · refine ⟨false,Ev.step (fun k=>rfl) ?_,fun e=>by cases e⟩
      simp only [dx.l1,dx.l1T,decide_eq_true_eq,c1,c2,if_true,hrd,hw,hh,Option.bind_some];by_cases g1:odd[n].f0 < -100
      · exact Ev.yes g1 (Ev.now _)
      refine Ev.no g1 ?_;by_cases g2:odd[n].f0>100
      · exact Ev.yes g2 (Ev.now _)
      refine Ev.no g2 ?_;have z:odd[n].f1≠[]:=fun e=>q ⟨by omega,fun f=>absurd e f⟩;simp only [uN z];refine Ev.yes trivial ?_;by_cases g:lu odd[n].f1 < -3000
      · exact Ev.yes g (Ev.now _)
      · exact Ev.no g (Ev.yes (by
          refine Classical.byContradiction fun g2=>q ⟨by omega,fun _=>by omega⟩) (Ev.now _))
theorem acd (m:MF core odd):∃ b,Ev (fun k=>dx.f k p c core odd) b∧(b=true→mR p c core odd):=by
  unfold dx.f;obtain ⟨b,b1,b2⟩:=aaB (p:=p) (c:=c) m;cases b with
  | false=>exact ⟨false,Ev.bind b1 (Ev.yes rfl (Ev.now _)),fun e=>by cases e⟩
  | true =>
    obtain ⟨f,g,lc,lo,sz⟩:=b2 rfl;by_cases p6:p>60
    · exact ⟨false,Ev.bind b1 (Ev.no (by simp) (Ev.yes (by simpa using p6) (Ev.now _))),fun e=>by cases e⟩
    have hC:∀ l∈core,l.length≤4611686018427387904:=fun l hl=>by have:=(f.s.hcore l hl).uD;omega
    have hO:∀ g∈odd,g.f1.length≤4611686018427387904:=fun g hg=>by have:=(f.s.hodd g hg).uD;omega
    obtain ⟨b,e1,e2⟩:=adF hO (by omega) odd.length 0 (by omega) (by omega) (fun j _ h=>by omega);rcases adE hC (by omega) core.length 0 (by omega) (by omega) (fun j _ h=>by omega) with ⟨a,q⟩ | q
    · exact ⟨b,Ev.bind b1 (Ev.no (by simp) (Ev.no (by simpa using p6) (q _ _ e1))),fun e=>⟨f,g,lc,lo,sz,by omega,a,e2 e⟩⟩
    · exact ⟨false,Ev.bind b1 (Ev.no (by simp) (Ev.no (by simpa using p6) (q _))),fun e=>by cases e⟩
theorem qc (l:List Sp) (hl:l.length≤4611686018427387904):Ev (fun k=>dP.f k l l) true:=by
  have key:∀ (d n:Nat),l.length - n=d→n≤l.length→Ev (fun k=>dP.l0 (some false) (some true) l l (l.length:Int) k (n:Int)) true:=by
    intro d;induction d with
    | zero =>
      intro n hd hn;have c1:¬ (n:Int)<(l.length:Int):=by omega
      refine Ev.step (fun k=>rfl) ?_;simp only [dP.l0,dP.l0T,decide_eq_true_eq,c1,if_false];exact Ev.now _
    | succ d ih =>
      intro n hd hn;have c1:(n:Int)<(l.length:Int):=by omega
      have c2:(0:Int)≤(n:Int):=by omega
      have hw:wq ((n:Int)+1)=((n+1:Nat):Int):=by rw [iX (by omega) (by omega)];simp
      refine Ev.step (fun k=>rfl) ?_;simp only [dP.l0,dP.l0T,decide_eq_true_eq,c1,c2,if_true,hw];exact Ev.no (by simp) (ih (n+1) (by omega) (by omega))
  unfold dP.f;exact Ev.no (by simp) (key l.length 0 (by omega) (by omega))
theorem uO (h:SF p c core odd):Ev (fun k=>dh.f k p c core odd p c core odd) true:=by
  have lc:=h.hl;have lo:=h.hlo;have k2:∀ (d n:Nat),odd.length - n=d→n≤odd.length→Ev (fun k=>dh.l2 (some false) (some true) odd (odd.length:Int) odd k (n:Int)) true:=by
    intro d;induction d with
    | zero =>
      intro n hd hn;have c1:¬ (n:Int)<(odd.length:Int):=by omega
      refine Ev.step (fun k=>rfl) ?_;simp only [dh.l2,dh.l2T,decide_eq_true_eq,c1,if_false];exact Ev.now _
    | succ d ih =>
      intro n hd hn;have hlt:n<odd.length:=by omega
      have c1:(n:Int)<(odd.length:Int):=by omega
      have c2:(0:Int)≤(n:Int):=by omega
      have hrd:=rdG odd n hlt;have hw:wq ((n:Int)+1)=((n+1:Nat):Int):=by rw [iX (by omega) (by omega)];simp
      refine Ev.step (fun k=>rfl) ?_;simp only [dh.l2,dh.l2T,decide_eq_true_eq,c1,c2,if_true,hrd,hw];exact Ev.no (by simp) (Ev.bind (qc odd[n].f1 (by have:=(h.hodd _ (List.getElem_mem hlt)).uD;omega)) (Ev.no (by simp) (ih (n+1) (by omega) (by omega))))
  have k1:∀ (d n:Nat),core.length - n=d→n≤core.length→∀ (Y:Nat→Option Bool),Ev Y true→Ev (fun k=>dh.l1 (some false) (Y k) core (core.length:Int) core k (n:Int)) true:=by
    intro d;induction d with
    | zero =>
      intro n hd hn Y hY;have c1:¬ (n:Int)<(core.length:Int):=by omega
      refine Ev.step (fun k=>rfl) ?_;simp only [dh.l1,dh.l1T,decide_eq_true_eq,c1,if_false];exact Ev.shift hY
    | succ d ih =>
      intro n hd hn Y hY;have hlt:n<core.length:=by omega
      have c1:(n:Int)<(core.length:Int):=by omega
      have c2:(0:Int)≤(n:Int):=by omega
      have hrd:=rdL core n hlt;have hw:wq ((n:Int)+1)=((n+1:Nat):Int):=by rw [iX (by omega) (by omega)];simp
      refine Ev.step (fun k=>rfl) ?_;simp only [dh.l1,dh.l1T,decide_eq_true_eq,c1,c2,if_true,hrd,hw];exact Ev.bind (qc core[n] (by have:=(h.hcore _ (List.getElem_mem hlt)).uD;omega)) (Ev.no (by simp) (ih (n+1) (by omega) (by omega) (fun k=>Y (k+1)) (Ev.shift hY)))
  unfold dh.f;refine Ev.no (by simp) (Ev.no (by simp) (Ev.no (by simp) (Ev.no (by simp) ?_)));unfold dh.l0;exact k1 core.length 0 (by omega) (by omega) _ (k2 odd.length 0 (by omega) (by omega))
end Go.Proofs.YtcomnjodjijcmaaGreat.Q

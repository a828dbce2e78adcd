/- Lemmas for laws of chapter 7: what the functions that they reach compute. No condition of its own. -/
import Derived.Test.YtongeknogcboiaaGreatYM18
namespace Go.Proofs.YtongeknogcboiaaGreat.Q
set_option linter.unusedVariables false
set_option linter.unusedSimpArgs false
open Go.RowKit Go.Proofs.YtongeknogcboiaaGreatW.fK Go.Proofs.YtongeknogcboiaaGreatW.iC M R P
section
abbrev X7T (γ:Type):=F4 (F4 (F4 (F4 (List Sp→F4 (List Sp→Int→Int→F4 (Int→Option γ))))))
abbrev X8T (γ:Type):=F4 (F4 (F4 (F4 (List Sp→F4 (Int→List Sp→Int→Int→F4 (Int→Option γ))))))
abbrev X9T (γ:Type):=F4 (F4 (F4 (F4 (List Sp→F4 (Int→List Sp→Option γ)))))
abbrev ahd (γ:Type):=F4 (F4 (F4 (F4 (List Sp→F4 (List Sp→Option γ)))))
theorem Ev2.swap {α:Type} {g:Nat→Nat→Option α} {r:α} (h:Ev2 g r):Ev2 (fun a m=>g m a) r:=let ⟨K,h⟩:=h;⟨K,fun k m hk hm=>h m k hm hk⟩
theorem Ev3.two' {α:Type} {g:Nat→Nat→Nat→Option α} {r:α} (h:Ev3 g r):Ev2 (fun k m=>g m m k) r:=let ⟨K,h⟩:=h;⟨K,fun k m hk hm=>h m m k hm hm hk⟩
end
variable [Inhabited WT]
variable {p c pa ca:Int} {core ka:List (List Sp)} {odd oa:List Gn} {γ:Type}
theorem adK {W:Nat→List Sp→List Sp→Option Bool} (h:FOK p c core odd) {so:Int→Bool} {set:List Sp} (hso:∀ m,Ex p c core odd m→Ev (fun k=>W k (gT p c core odd m) set) (so m)) (s0 s1:Int):∀ (d:Nat) (b i:Int) (ok:Bool),
    (ok=true→(i+1099511627777).toNat≤d)→(ok=true→inR i∧fs c core odd i≠[]∧i≤b∧∀ m,Ex p c core odd m→m≤b→m≤i)→(ok=true→∃ i0,Ex p c core odd i0∧i≤i0)→(ok=false→∀ m,Ex p c core odd m→¬ m≤b) →
    ∃ r,agq p c core odd so s0 b r∧∀ (X0 X1:Nat→Nat→X7T γ) (X2:Nat→Nat→X8T γ) (X3:Nat→Nat→X7T γ) (v:γ),
      (r=none→Ev2 (fun k m=>X0 k m pa ca ka oa p c core odd pa ca ka oa p c core odd set p c core odd set s0 s1 p c core odd s1) v∧Ev2 (fun k m=>X1 k m pa ca ka oa p c core odd pa ca ka oa p c core odd set p c core odd set s0 s1 p c core odd s1) v∧Ev2 (fun k m=>X3 k m pa ca ka oa p c core odd pa ca ka oa p c core odd set p c core odd set s0 s1 p c core odd s1) v) →
      (∀ j,r=some j→Ev2 (fun k m=>X2 k m pa ca ka oa p c core odd pa ca ka oa p c core odd set p c core odd j set s0 s1 p c core odd s1) v) →
      Ev3 (fun k k' m=>fE.l3 (fun q1 q2 q3 q4 q5 q6 q7 q8 q9 af ah ai aj ak al q16 am ao ab ap aq q22 au q24 ac aw ax ay az aA aB x0 x1 x2=>if 0≤wq ((q2.length:Int) - 1) then (if wq ((q2.length:Int) - 1)<(q2.length:Int) then (if (gS q2 (wq ((q2.length:Int) - 1))).f1<ac then x0 q3 q4 q5 q6 q7 q8 q9 af ah ai aj ak al q16 am ao ab ap aq q22 au q24 ac aw ax ay az aA aB else ((W k' q2 ab).bind fun t=>if t=true then x1 q3 q4 q5 q6 q7 q8 q9 af ah ai aj ak al q16 am ao ab ap aq q22 au q1 q24 ac aw ax ay az aA aB else x2 q3 q4 q5 q6 q7 q8 q9 af ah ai aj ak al q16 am ao ab ap aq q22 au q24 ac aw ax ay az aA aB)) else none) else none)
        (X0 k' m) (X1 k' m) (X2 k' m) (X3 k' m) k i ok pa ca ka oa p c core odd pa ca ka oa p c core odd set p c core odd set s0 s1 p c core odd s1) v:=by
  intro d;induction d with
  | zero =>
    intro b i ok h1 h2 h3 h4;have hok:ok=false:=by
      cases ok with
      | true=>have:=(h2 rfl).1;unfold inR at this;have:=h1 rfl;omega
      | false=>rfl
    subst hok;refine ⟨none,fun m hm hi=>(h4 rfl m hm hi).elim,fun X0 X1 X2 X3 v hn hs=>Ev3.step (fun k a m=>rfl) ?_⟩;simp only [fE.l3,fE.l3T];exact Ev3.no (by simp) (Ev3.right (hn rfl).2.2)
  | succ d ih =>
    intro b i ok h1 h2 h3 h4;cases ok with
    | false =>
      refine ⟨none,fun m hm hi=>(h4 rfl m hm hi).elim,fun X0 X1 X2 X3 v hn hs=>Ev3.step (fun k a m=>rfl) ?_⟩;simp only [fE.l3,fE.l3T];exact Ev3.no (by simp) (Ev3.right (hn rfl).2.2)
    | true =>
      obtain ⟨hr,hf,hbi,hall⟩:=h2 rfl;obtain ⟨i0,hi0,hle⟩:=h3 rfl;have hd:=h1 rfl;have hr':=hr;unfold inR at hr';have hth:=kY h.s i;rcases l8 h.s i with ⟨e,e1,e2⟩ | ⟨e,e1⟩
      · have ev:thV p c core odd i=gT p c core odd i:=by unfold thV;rw [e1]
        rw [ev] at hth;have hne:¬ ((gT p c core odd i).length:Int)=0:=fun q=>e2 (List.eq_nil_of_length_eq_zero (by omega));obtain ⟨w1,aC,w3⟩:=aeS _ e2 (h.s.qH e).adA;have w2:0≤wq (((gT p c core odd i).length:Int) - 1):=by rw [w1];exact aC
        have w4:wq (((gT p c core odd i).length:Int) - 1)<((gT p c core odd i).length:Int):=by rw [w1];omega
        have aa:(gS (gT p c core odd i) (wq (((gT p c core odd i).length:Int) - 1))).f1=gHi p c core odd i:=by rw [w1];exact w3.trans (qG e.n).2.2
        by_cases hb:gHi p c core odd i<s0
        · refine ⟨none,fun m hm hi hg => ?_,fun X0 X1 X2 X3 v hn hs=>Ev3.step (fun k a m=>rfl) ?_⟩
          · rcases Int.lt_or_le m i with g | g
            · have:=h.ord m i g hm.r e.r hm.n e.n
              have:=h.s.lV e.n;omega
            · have:m=i:=by have:=hall m hm hi;omega
              subst this;omega
          · simp only [fE.l3,fE.l3T,decide_eq_true_eq,if_true]
            refine (Ev3.nW hth (Ev3.no hne (Ev3.yes w2 (Ev3.yes w4 (Ev3.yes (by rw [aa];exact hb) ?_)))));exact Ev3.right (hn rfl).2.1
        · by_cases hs1:so i=true
          · refine ⟨some i,⟨e,hbi,hs1,by omega,fun m hm q1 q2=>by have:=hall m hm q1;omega⟩,fun X0 X1 X2 X3 v hn hs=>Ev3.step (fun k a m=>rfl) ?_⟩
            simp only [fE.l3,fE.l3T,decide_eq_true_eq,if_true];refine (Ev3.nW hth (Ev3.no hne (Ev3.yes w2 (Ev3.yes w4 (Ev3.no (by rw [aa];exact hb) (Ev3.ab3 (hso i e) (Ev3.yes hs1 ?_)))))));exact Ev3.right (hs i rfl)
          · have hs1':so i=false:=by simpa using hs1
            obtain ⟨n,n1,n2⟩:=qK h.s i (by omega);obtain ⟨r,r1,r2⟩:=ih (i - 1) n.1 n.2 (fun q=>by have:=(n2.1 q).1;omega) (fun q=>⟨(n2.1 q).2.1,(n2.1 q).2.2.1,by have:=(n2.1 q).1;omega,fun m hm hx=>Classical.byContradiction fun hy=>by
              have hmr:=hm.r;unfold inR at hmr;exact hm.n ((n2.1 q).2.2.2 m (by omega) (by omega))⟩) (fun q=>⟨i0,hi0,by have:=(n2.1 q).1;omega⟩) (fun q m hm hx=>by
              have hmr:=hm.r;unfold inR at hmr;exact hm.n ((n2.2 q).2 m (by omega) hm.r))
            have key:∀ m,Ex p c core odd m→m≤b→m=i∨m≤i - 1:=fun m hm hx=>by have:=hall m hm hx;omega
            refine ⟨r,?_,fun X0 X1 X2 X3 v hn hs=>Ev3.step (fun k a m=>rfl) ?_⟩
            · cases r with
              | none =>
                intro m hm hx hg;rcases key m hm hx with q | q
                · rw [q];exact hs1'
                · exact r1 m hm q hg
              | some j =>
                obtain ⟨q1,q2,q3,q4,q5⟩:=r1;refine ⟨q1,by omega,q3,q4,fun m hm hx hy => ?_⟩;rcases key m hm hx with q | q
                · rw [q];exact hs1'
                · exact q5 m hm q hy
            · simp only [fE.l3,fE.l3T,decide_eq_true_eq,if_true]
              refine (Ev3.nW hth (Ev3.no hne (Ev3.yes w2 (Ev3.yes w4 (Ev3.no (by rw [aa];exact hb) (Ev3.ab3 (hso i e) (Ev3.no hs1 (Ev3.nW n1 ?_))))))));exact r2 X0 X1 X2 X3 v hn hs
      · have ev:thV p c core odd i=[]:=e1
        rw [ev] at hth;refine ⟨none,fun m hm hx hg=>(e (rU h hm hi0 (hall m hm hx) hle hr hf)).elim,fun X0 X1 X2 X3 v hn hs=>Ev3.step (fun k a m=>rfl) ?_⟩;simp only [fE.l3,fE.l3T,decide_eq_true_eq,if_true];exact Ev3.nW hth (Ev3.yes rfl (Ev3.right (hn rfl).1))
noncomputable def YB [Inhabited WT] {γ:Type} (W:Nat→List Sp→List Sp→Option Bool) (k':Nat):Int→Int→Int→F4 (F4 (F4 (F4 (List Sp→F4 (List Sp→(F4 (F4 (F4 (F4 (List Sp→F4 (List Sp→Option γ))))))→X9T γ→Option γ))))) :=
  fun q1 q2 q3 q4 q5 q6 q7 q8 q9 aG aH aI aJ aK aL q16 aM aN aO aP am q22 ao q24 aQ x0 x1=>(fH.f k' am q22 ao q24 q3).bind fun t=>fE.l3 (fun p1 p2 p3 p4 p5 p6 p7 p8 p9 ap aq au aw ax ay p16 az aA al aB aC aD aE aF p25 p26 p27 p28 p29 p30 p31 y0 y1 y2=>if 0≤wq ((p2.length:Int) - 1) then (if wq ((p2.length:Int) - 1)<(p2.length:Int) then (if (gS p2 (wq ((p2.length:Int) - 1))).f1<p25 then y0 p3 p4 p5 p6 p7 p8 p9 ap aq au aw ax ay p16 az aA al aB aC aD aE aF p25 p26 p27 p28 p29 p30 p31 else ((W k' p2 al).bind fun t=>if t=true then y1 p3 p4 p5 p6 p7 p8 p9 ap aq au aw ax ay p16 az aA al aB aC aD aE p1 aF p25 p26 p27 p28 p29 p30 p31 else y2 p3 p4 p5 p6 p7 p8 p9 ap aq au aw ax ay p16 az aA al aB aC aD aE aF p25 p26 p27 p28 p29 p30 p31)) else none) else none)
          (fun z1 z2 z3 z4 z5 z6 z7 z8 z9 aa ab z12 ac af ah ai z17 aj ak z20 z21 z22 z23 z24 z25 z26 z27 z28 z29=>x0 z1 z2 z3 z4 z5 z6 z7 z8 z9 aa ab z12 ac af ah ai z17 aj ak z20 z21 z22) (fun z1 z2 z3 z4 z5 z6 z7 z8 z9 aa ab z12 ac af ah ai z17 aj ak z20 z21 z22 z23 z24 z25 z26 z27 z28 z29=>x0 z1 z2 z3 z4 z5 z6 z7 z8 z9 aa ab z12 ac af ah ai z17 aj ak z20 z21 z22)
          (fun z1 z2 z3 z4 z5 z6 z7 z8 z9 aa ab z12 ac af ah ai z17 aj ak z20 z21 z22 z23 z24 z25 z26 z27 z28 z29 z30=>x1 z1 z2 z3 z4 z5 z6 z7 z8 z9 aa ab z12 ac af ah ai z17 aj ak z20 z21 z22 z23) (fun z1 z2 z3 z4 z5 z6 z7 z8 z9 aa ab z12 ac af ah ai z17 aj ak z20 z21 z22 z23 z24 z25 z26 z27 z28 z29=>x0 z1 z2 z3 z4 z5 z6 z7 z8 z9 aa ab z12 ac af ah ai z17 aj ak z20 z21 z22)
          k' t.1 t.2 q4 q5 q6 q7 q8 q9 aG aH aI aJ aK aL q16 aM aN aO aP am q22 ao q24 aQ q2 q3 am q22 ao q24 q3
theorem aaR {W:Nat→List Sp→List Sp→Option Bool} (h:FOK p c core odd) {so:Int→Bool} {set:List Sp} (hS:SL (-1099511627776) 1099511627776 set) (hso:∀ m,Ex p c core odd m→Ev (fun k=>W k (gT p c core odd m) set) (so m)) (hh:ae1 p c core odd so set) :
    ∃ r,adJ p c core odd so r∧∀ (X0:Nat→X9T γ) (X1:Nat→ahd γ) (v:γ),(r=none→Ev (fun k=>X1 k pa ca ka oa p c core odd pa ca ka oa p c core odd set p c core odd set) v)→(∀ j,r=some j→Ev (fun k=>X0 k pa ca ka oa p c core odd pa ca ka oa p c core odd set p c core odd j set) v) →
      Ev2 (fun k k'=>fE.l2 (YB W k') (X0 k') (X1 k') k (wq ((set.length:Int) - 1)) pa ca ka oa p c core odd pa ca ka oa p c core odd set p c core odd set) v:=by
  have hl:set.length≤2199023255553:=by have:=SL.len (lo:=0) hS;omega
  have loop:∀ (n:Nat),n≤set.length→(∀ m,Ex p c core odd m→(∃ j,∃ hj:j<set.length,n≤j∧gLo p c core odd m≤set[j].f1∧set[j].f0≤gHi p c core odd m)→so m=false) →
      ∃ r,adJ p c core odd so r∧∀ (X0:Nat→X9T γ) (X1:Nat→ahd γ) (v:γ),(r=none→Ev (fun k=>X1 k pa ca ka oa p c core odd pa ca ka oa p c core odd set p c core odd set) v)→(∀ j,r=some j→Ev (fun k=>X0 k pa ca ka oa p c core odd pa ca ka oa p c core odd set p c core odd j set) v) →
        Ev2 (fun k k'=>fE.l2 (YB W k') (X0 k') (X1 k') k ((n:Int) - 1) pa ca ka oa p c core odd pa ca ka oa p c core odd set p c core odd set) v:=by
    intro n;induction n with
    | zero =>
      intro hn hi;refine ⟨none,fun m hm => ?_,fun X0 X1 v hn hs=>Ev2.step (fun k m=>rfl) ?_⟩
      · cases e:so m with
        | false=>rfl
        | true =>
          obtain ⟨u,hu,u1,u2⟩:=hh m hm e;obtain ⟨j,hj,rfl⟩:=List.getElem_of_mem hu;have:=hi m hm ⟨j,hj,Nat.zero_le _,u1,u2⟩;rw [e] at this;cases this
      · simp only [fE.l2,fE.l2T,decide_eq_true_eq]
        exact Ev2.no (by omega) (Ev2.right (hn rfl))
    | succ n ih =>
      intro hn hi;have en:((n+1:Nat):Int) - 1=(n:Int):=by omega
      have hlt:n<set.length:=by omega
      have hrd:=agn set n hlt;have c1:(n:Int)<(set.length:Int):=by omega
      have c2:(0:Int)≤(n:Int):=by omega
      have hw:wq ((n:Int) - 1)=(n:Int) - 1:=jo (by omega) (by omega);rw [en];obtain ⟨s,hs⟩:∃ s,set[n]=s:=⟨_,rfl⟩;rw [hs] at hrd;obtain ⟨a,a1,a2⟩:=adG h s.f1;have base:∀ m,Ex p c core odd m→gLo p c core odd m≤s.f1→a.2=true∧m≤a.1:=fun m hm hx=>by
        cases e:a.2 with
        | true=>exact ⟨rfl,(a2.y e).2.2 m hm hx⟩
        | false=>exact ((a2.n e).2 m hm hx).elim
      obtain ⟨b,hb1,hb2⟩:∃ b,(a.2=true→b=a.1)∧(a.2=false→b = -1099511627777):=by
        cases a.2 with
        | true=>exact ⟨a.1,fun _=>rfl,(fun q=>by cases q)⟩
        | false=>exact ⟨-1099511627777,(fun q=>by cases q),fun _=>rfl⟩
      obtain ⟨x,x1,x2⟩:=adK (pa:=pa) (ca:=ca) (ka:=ka) (oa:=oa) (γ:=γ) h hso s.f0 s.f1 (a.1+1099511627777).toNat b a.1 a.2 (fun _=>Nat.le_refl _) (fun q=>⟨(a2.y q).1.r,(a2.y q).1.n,Int.le_of_eq (hb1 q).symm,fun m _ hx=>by rw [hb1 q] at hx;exact hx⟩) (fun q=>⟨a.1,(a2.y q).1,Int.le_refl _⟩) (fun q m hm hx=>by have:=hm.r;unfold inR at this;have:=hb2 q;omega);have hb3:∀ m,Ex p c core odd m→gLo p c core odd m≤s.f1→m≤b:=fun m hm hx=>by
        obtain ⟨q1,q2⟩:=base m hm hx;rw [hb1 q1];exact q2
      cases x with
      | some j =>
        obtain ⟨y1,y2,y3,y4,y5⟩:=x1;refine ⟨some j,⟨y1,y3,fun m hm hsm=>Classical.byContradiction fun hgt => ?_⟩,fun X0 X1 v hn hs=>Ev2.step (fun k m=>rfl) ?_⟩
        · obtain ⟨u,hu,u1,u2⟩:=hh m hm hsm
          obtain ⟨i,hi2,rfl⟩:=List.getElem_of_mem hu;rcases Nat.lt_or_ge n i with g | g
          · rw [hi m hm ⟨i,hi2,g,u1,u2⟩] at hsm;cases hsm
          · rcases Nat.lt_or_ge i n with g2 | g2
            · have:=SL.rise hS i n hlt g2
              rw [hs] at this;have:=h.ord j m (by omega) y1.r hm.r y1.n hm.n;omega
            · have:i=n:=by omega
              subst this;rw [hs] at u1 u2;rw [y5 m hm (hb3 m hm u1) (by omega)] at hsm;cases hsm
        · simp only [fE.l2,fE.l2T,decide_eq_true_eq]
          refine Ev2.yes (by omega) (Ev2.yes c2 (Ev2.yes c1 ?_));rw [hrd];unfold YB;refine Ev2.aeZ a1 ?_;exact (x2 _ _ _ _ v (fun e=>by cases e) (fun j' e=>by cases e;exact Ev2.of (hs j rfl))).two'
      | none =>
        obtain ⟨z,z1,z2⟩:=ih (by omega) (fun m hm ⟨i,hi2,g,u1,u2⟩=>by
          rcases Nat.lt_or_ge n i with q | q
          · exact hi m hm ⟨i,hi2,q,u1,u2⟩
          · have:i=n:=by omega
            subst this;rw [hs] at u1 u2;exact x1 m hm (hb3 m hm u1) u2)
        refine ⟨z,z1,fun X0 X1 v hn hs=>Ev2.step (fun k m=>rfl) ?_⟩;have hz:=z2 X0 X1 v hn hs;simp only [fE.l2,fE.l2T,decide_eq_true_eq,hw];refine Ev2.yes (by omega) (Ev2.yes c2 (Ev2.yes c1 ?_));rw [hrd];unfold YB;refine Ev2.aeZ a1 ?_;have hz':=Ev2.swap hz;exact (x2 _ _ _ _ v (fun _=>⟨hz',hz',hz'⟩) (fun j' e=>by cases e)).two'
  have:=loop set.length (Nat.le_refl _) (fun m _ ⟨j,hj,hj2,_⟩=>by omega);rw [jo (n:=(set.length:Int) - 1) (by omega) (by omega)];exact this
end Go.Proofs.YtongeknogcboiaaGreat.Q
namespace Go.Proofs.YtongeknogcboiaaGreat.Q
set_option linter.unusedVariables false
set_option linter.unusedSimpArgs false
open Go.RowKit Go.Proofs.YtongeknogcboiaaGreatW.fK Go.Proofs.YtongeknogcboiaaGreatW.iC M R P
variable {γ:Type} {p c pa ca:Int} {core ka:List (List Sp)} {odd oa:List Gn}
def inS (l m:List Sp):Bool:=decide (nQ (fun a b=>a && !b) l m=[])
def meS (l m:List Sp):Bool:=decide (nQ (fun a b=>a&&b) l m≠[])
theorem aaS {lo hi:Int} {l:List Sp} (h:SL lo hi l) (hn:l≠[]):∃ x,kI l x=true:=by
  refine Classical.byContradiction fun hx=>hn (h.empty fun x => ?_);rw [Bool.eq_false_iff];exact fun e=>hx ⟨x,e⟩
theorem wQ {l m:List Sp} (hl:SL (-1099511627776) 1099511627776 l) (hm:SL (-1099511627776) 1099511627776 m):inS l m=true↔∀ x,kI l x=true→kI m x=true:=by
  obtain ⟨k1,k2⟩:=aax (fun a b=>a && !b) rfl hl hm;unfold inS;rw [decide_eq_true_eq];constructor
  · intro e x hx
    have:=k2 x;rw [e] at this;simp only [sV,hx,Bool.true_and] at this;simpa using this
  · intro e
    refine k1.empty fun x => ?_;rw [k2];cases hx:kI l x with
    | false=>rfl
    | true=>simp [e x hx]
theorem aaT {l m:List Sp} (hl:SL (-1099511627776) 1099511627776 l) (hm:SL (-1099511627776) 1099511627776 m):meS l m=true↔∃ x,kI l x=true∧kI m x=true:=by
  obtain ⟨k1,k2⟩:=aax (fun a b=>a&&b) rfl hl hm;unfold meS;rw [decide_eq_true_eq];constructor
  · intro e
    obtain ⟨x,hx⟩:=aaS k1 e;rw [k2,Bool.and_eq_true] at hx;exact ⟨x,hx⟩
  · rintro ⟨x,h1,h2⟩ e
    have:=k2 x;rw [e,h1,h2] at this;cases this
theorem acC {i x:Int} (h:SF p c core odd) (e:Ex p c core odd i) (hx:kI (gT p c core odd i) x=true):gLo p c core odd i≤x∧x≤gHi p c core odd i:=by
  have hs:=h.qH e;obtain ⟨n,f1,f2⟩:=qG (p:=p) e.n;have:=hs.qE hx;omega
theorem aaU (h:SF p c core odd) {set:List Sp} (hS:SL (-1099511627776) 1099511627776 set):ae1 p c core odd (fun m=>meS (gT p c core odd m) set) set:=fun m hm e=>by
  obtain ⟨x,h1,h2⟩:=(aaT (h.qH hm) hS).1 e;obtain ⟨s,hs,s1,s2⟩:=mW.1 h2;have:=acC h hm h1;exact ⟨s,hs,by omega,by omega⟩
theorem aaV (h:SF p c core odd) {set:List Sp} (hS:SL (-1099511627776) 1099511627776 set):ae1 p c core odd (fun m=>inS (gT p c core odd m) set) set:=fun m hm e=>by
  obtain ⟨x,h1⟩:=aaS (h.qH hm) (qG (p:=p) hm.n).1;obtain ⟨s,hs,s1,s2⟩:=mW.1 ((wQ (h.qH hm) hS).1 e x h1);have:=acC h hm h1;exact ⟨s,hs,by omega,by omega⟩
structure BoS (p c:Int) (core:List (List Sp)) (odd:List Gn) (so:Int→Bool) (r:Int × Int × Bool):Prop where
  y:r.2.2=true→(Ex p c core odd r.1∧so r.1=true)∧(Ex p c core odd r.2.1∧so r.2.1=true)∧∀ m,Ex p c core odd m→so m=true→r.1≤m∧m≤r.2.1
  n:r.2.2=false→r.1=0∧r.2.1=0∧∀ m,Ex p c core odd m→so m=false
theorem vH (h:SF p c core odd) (i:Int):SL (-1099511627776) 1099511627776 (thV p c core odd i):=by
  unfold thV;rcases l8 h i with ⟨e,e1,e2⟩ | ⟨e,e1⟩
  · rw [e1];exact h.qH e
  · rw [e1];trivial
theorem aaW (h:FOK p c core odd) {so:Int→Bool} {r1 r2:Option Int} (h1:ae0 p c core odd so r1) (h2:adJ p c core odd so r2):BoS p c core odd so (match r1 with | none=>(0,0,false) | some j=>(j,r2.getD 0,true)):=by
  cases r1 with
  | none=>exact ⟨(fun e=>by cases e),fun _=>⟨rfl,rfl,h1⟩⟩
  | some j =>
    obtain ⟨a1,a2,a3⟩:=h1;cases r2 with
    | none=>have:=h2 j a1;rw [a2] at this;cases this
    | some m =>
      obtain ⟨b1,b2,b3⟩:=h2;exact ⟨fun _=>⟨⟨a1,a2⟩,⟨b1,b2⟩,fun q hq hs=>⟨a3 q hq hs,b3 q hq hs⟩⟩,fun e=>by cases e⟩
theorem qN:@fF.l1=@fE.l1:=by kernel_rfl
theorem aaX:@fF.l2=@fE.l2:=by kernel_rfl
theorem aaY:@fF.l3=@fE.l3:=by kernel_rfl
variable [Inhabited WT]
theorem adL (h:FOK p c core odd) {so:Int→Bool} {set:List Sp} (hS:SL (-1099511627776) 1099511627776 set) (hso:∀ m,Ex p c core odd m→Ev (fun k=>iE.f k (gT p c core odd m) set) (so m)) (hh:ae1 p c core odd so set) :
    ∃ r,ae0 p c core odd so r∧∀ (X0:Nat→X5T γ) (X1:Nat→X6T γ) (v:γ),(r=none→Ev (fun k=>X1 k pa ca ka oa p c core odd pa ca ka oa p c core odd set p c core odd) v)→(∀ j,r=some j→Ev (fun k=>X0 k pa ca ka oa p c core odd pa ca ka oa p c core odd set p c core odd j) v) →
      Ev2 (fun k k'=>fF.l0 (X0 k') (X1 k') set (set.length:Int) k 0 pa ca ka oa p c core odd pa ca ka oa p c core odd set p c core odd) v:=by
  have hl:set.length≤2199023255553:=by have:=SL.len (lo:=0) hS;omega
  have loop:∀ (rest pre:List Sp),set=pre++rest→(∀ m,Ex p c core odd m→(∃ s∈pre,gLo p c core odd m≤s.f1∧s.f0≤gHi p c core odd m)→so m=false) →
      ∃ r,ae0 p c core odd so r∧∀ (X0:Nat→X5T γ) (X1:Nat→X6T γ) (v:γ),(r=none→Ev (fun k=>X1 k pa ca ka oa p c core odd pa ca ka oa p c core odd set p c core odd) v)→(∀ j,r=some j→Ev (fun k=>X0 k pa ca ka oa p c core odd pa ca ka oa p c core odd set p c core odd j) v) →
        Ev2 (fun k k'=>fF.l0 (X0 k') (X1 k') set (set.length:Int) k (pre.length:Int) pa ca ka oa p c core odd pa ca ka oa p c core odd set p c core odd) v:=by
    intro rest;induction rest with
    | nil =>
      intro pre hp hi;refine ⟨none,fun m hm => ?_,fun X0 X1 v hn hs=>Ev2.step (fun k m=>rfl) ?_⟩
      · cases e:so m with
        | false=>rfl
        | true =>
          have:=hi m hm (by have:=hh m hm e;rw [hp,List.append_nil] at this;exact this);rw [e] at this;cases this
      · have c1:¬ (pre.length:Int)<(set.length:Int):=by rw [hp];simp
        simp only [fF.l0,fF.l0T,qN,decide_eq_true_eq,c1,if_false];exact Ev2.right (hn rfl)
    | cons s r ih =>
      intro pre hp hi;have hlen:pre.length+1≤set.length:=by rw [hp];simp
      have hrd:gS set (pre.length:Int)=s:=by rw [hp];exact rdS _ _ _
      have c1:(pre.length:Int)<(set.length:Int):=by omega
      have c2:(0:Int)≤(pre.length:Int):=by omega
      have hw:=nx c1 c2 (by omega);obtain ⟨a,a1,a2⟩:=wO h s.f0;have hs0:=SL.ticks hS (s:=s) (by rw [hp];simp);have base:∀ m,Ex p c core odd m→s.f0≤gHi p c core odd m→a.2=true∧a.1≤m:=fun m hm hx=>by
        cases e:a.2 with
        | true=>exact ⟨rfl,(a2.y e).2.2 m hm hx⟩
        | false=>exact ((a2.n e).2 m hm hx).elim
      obtain ⟨b,hb1,hb2⟩:∃ b,(a.2=true→b=a.1)∧(a.2=false→b=1099511627777):=by
        cases a.2 with
        | true=>exact ⟨a.1,fun _=>rfl,(fun q=>by cases q)⟩
        | false=>exact ⟨1099511627777,(fun q=>by cases q),fun _=>rfl⟩
      obtain ⟨x,x1,x2⟩:=acB (pa:=pa) (ca:=ca) (ka:=ka) (oa:=oa) (γ:=γ) h hso s.f0 s.f1 (1099511627777 - a.1).toNat b a.1 a.2 (fun _=>Nat.le_refl _) (fun q=>⟨(a2.y q).1.r,(a2.y q).1.n,Int.le_of_eq (hb1 q),fun m _ hx=>by rw [hb1 q] at hx;exact hx⟩) (fun q=>⟨a.1,(a2.y q).1,Int.le_refl _⟩) (fun q m hm hx=>by have:=hm.r;unfold inR at this;have:=hb2 q;omega);have hb3:∀ m,Ex p c core odd m→s.f0≤gHi p c core odd m→b≤m:=fun m hm hx=>by
        obtain ⟨q1,q2⟩:=base m hm hx;rw [hb1 q1];exact q2
      cases x with
      | some j =>
        obtain ⟨y1,y2,y3,y4,y5⟩:=x1;refine ⟨some j,⟨y1,y3,fun m hm hsm=>Classical.byContradiction fun hlt => ?_⟩,fun X0 X1 v hn hs=>Ev2.step (fun k m=>rfl) ?_⟩
        · obtain ⟨u,hu,u1,u2⟩:=hh m hm hsm
          rw [hp] at hu;rcases List.mem_append.1 hu with hu | hu
          · rw [hi m hm ⟨u,hu,u1,u2⟩] at hsm;cases hsm
          · rcases List.mem_cons.1 hu with rfl | hu
            · rw [y5 m hm (hb3 m hm u2) (by omega)] at hsm;cases hsm
            · have:=SL.after (hp ▸ hS) hu
              have:=h.ord m j (by omega) hm.r y1.r hm.n y1.n;omega
        · simp only [fF.l0,fF.l0T,qN,decide_eq_true_eq,c1,c2,if_true,hrd]
          refine Ev2.nW a1 ?_;exact (x2 _ _ _ _ v (fun e=>by cases e) (fun j' e=>by cases e;exact Ev2.right (hs j rfl))).two
      | none =>
        obtain ⟨z,z1,z2⟩:=ih (pre++[s]) (by rw [hp];simp) (fun m hm ⟨u,hu,u1,u2⟩=>by
          rcases List.mem_append.1 hu with hu | hu
          · exact hi m hm ⟨u,hu,u1,u2⟩
          · simp at hu;subst hu
            exact x1 m hm (hb3 m hm u2) u1)
        refine ⟨z,z1,fun X0 X1 v hn hs=>Ev2.step (fun k m=>rfl) ?_⟩;have hz:=z2 X0 X1 v hn hs;rw [← len1] at hz;simp only [fF.l0,fF.l0T,qN,decide_eq_true_eq,c1,c2,if_true,hrd,hw];refine Ev2.nW a1 ?_;exact (x2 _ _ _ _ v (fun _=>⟨hz,hz,hz⟩) (fun j' e=>by cases e)).two
  exact loop set [] rfl (fun m _ ⟨s,hs,_⟩=>by simp at hs)
theorem yu (ha:SF pa ca ka oa) (h:FOK p c core odd) (i:Int) (hl:(thV pa ca ka oa i).length≤100000) (hb:∀ m,(gT p c core odd m).length≤100000) :
    ∃ r,Ev (fun k=>fE.f k pa ca ka oa p c core odd i) r∧BoS p c core odd (fun m=>meS (gT p c core odd m) (thV pa ca ka oa i)) r:=by
  have hS:=vH ha i;have hso:∀ m,Ex p c core odd m→Ev (fun k=>jd.f k (gT p c core odd m) (thV pa ca ka oa i)) (meS (gT p c core odd m) (thV pa ca ka oa i)):=fun m _=>adI _ _ (by have:=hb m;omega);obtain ⟨r1,a1,a2⟩:=ae2 (pa:=pa) (ca:=ca) (ka:=ka) (oa:=oa) (γ:=Int × Int × Bool) h (so:=fun m=>meS (gT p c core odd m) (thV pa ca ka oa i)) hS hso (aaU h.s hS);obtain ⟨r2,b1,b2⟩:=aaR (W:=jd.f) (pa:=pa) (ca:=ca) (ka:=ka) (oa:=oa) (γ:=Int × Int × Bool) h (so:=fun m=>meS (gT p c core odd m) (thV pa ca ka oa i)) hS hso (aaU h.s hS);refine ⟨_,?_,aaW h a1 b1⟩;unfold fE.f;refine Ev.bind (kY ha i) ?_;simp only [decide_eq_true_eq];refine (a2 _ _ _ (fun e => ?_) (fun j e => ?_)).diag
  · subst e;exact Ev.now _
  · subst e
    refine (b2 _ _ _ (fun e => ?_) (fun j' e => ?_)).diag
    · subst e;exact Ev.now _
    · subst e;exact Ev.now _
theorem rV (ha:SF pa ca ka oa) (h:FOK p c core odd) (i:Int) (hl:(thV pa ca ka oa i).length≤100000) (hb:∀ m,(gT p c core odd m).length≤100000) :
    ∃ r,Ev (fun k=>fF.f k pa ca ka oa p c core odd i) r∧BoS p c core odd (fun m=>inS (gT p c core odd m) (thV pa ca ka oa i)) r:=by
  have hS:=vH ha i;have hso:∀ m,Ex p c core odd m→Ev (fun k=>iE.f k (gT p c core odd m) (thV pa ca ka oa i)) (inS (gT p c core odd m) (thV pa ca ka oa i)):=fun m _=>vG _ _ (by have:=hb m;omega);obtain ⟨r1,a1,a2⟩:=adL (pa:=pa) (ca:=ca) (ka:=ka) (oa:=oa) (γ:=Int × Int × Bool) h (so:=fun m=>inS (gT p c core odd m) (thV pa ca ka oa i)) hS hso (aaV h.s hS);obtain ⟨r2,b1,b2⟩:=aaR (W:=iE.f) (pa:=pa) (ca:=ca) (ka:=ka) (oa:=oa) (γ:=Int × Int × Bool) h (so:=fun m=>inS (gT p c core odd m) (thV pa ca ka oa i)) hS hso (aaV h.s hS);refine ⟨_,?_,aaW h a1 b1⟩;unfold fF.f;refine Ev.bind (kY ha i) ?_;simp only [decide_eq_true_eq,aaX,aaY];refine (a2 _ _ _ (fun e => ?_) (fun j e => ?_)).diag
  · subst e;exact Ev.now _
  · subst e
    refine (b2 _ _ _ (fun e => ?_) (fun j' e => ?_)).diag
    · subst e;exact Ev.now _
    · subst e;exact Ev.now _
end Go.Proofs.YtongeknogcboiaaGreat.Q
namespace Go.Proofs.YtongeknogcboiaaGreat.Q
set_option linter.unusedVariables false
set_option linter.unusedSimpArgs false
open Go.RowKit Go.Proofs.YtongeknogcboiaaGreatW.fK Go.Proofs.YtongeknogcboiaaGreatW.iC M R P
section
variable {p c:Int} {core:List (List Sp)} {odd:List Gn}
theorem wR {α:Type} (f:α→Int) (h0:∀ x,0≤f x):∀ {l:List α} {x:α},x∈l→f x≤(l.map f).sum
  | [],x,h=>by cases h
  | y :: r,x,h=>by
    have hs:0≤(r.map f).sum:=aaM (fun z hz=>by obtain ⟨a,_,rfl⟩:=List.mem_map.1 hz;exact h0 a);rw [List.map_cons,List.sum_cons];rcases List.mem_cons.1 h with rfl | h
    · omega
    · have:=wR f h0 h
      have:=h0 y;omega
theorem ae3 (h:SF p c core odd) (i:Int):((fs c core odd i).length:Int)≤aaL core odd:=by
  have n1:0≤(core.map fun l:List Sp=>(l.length:Int)).sum:=aaM (fun z hz=>by obtain ⟨a,_,rfl⟩:=List.mem_map.1 hz;omega);have n2:0≤(odd.map fun g:Gn=>(g.f1.length:Int)).sum:=aaM (fun z hz=>by obtain ⟨a,_,rfl⟩:=List.mem_map.1 hz;omega);unfold aaL;unfold fs;cases ho:jm odd i with
  | some l =>
    obtain ⟨g,hg,_,e⟩:=kV ho;have:=wR (fun g:Gn=>(g.f1.length:Int)) (fun _=>by omega) hg;simp only [e] at this;simp only;omega
  | none =>
    by_cases hc:c=0
    · simp only [iG,if_pos hc];simp;omega
    · have:=wR (fun l:List Sp=>(l.length:Int)) (fun _=>by omega) (h.kW i hc)
      simp only at this ⊢;omega
theorem ae4 (h:SF p c core odd) (i:Int):((gT p c core odd i).length:Int)≤aaL core odd:=by
  have:=ae3 h i;unfold gT;rw [List.length_map];exact this
theorem adM (h:SF p c core odd) (i:Int):((thV p c core odd i).length:Int)≤max 0 (aaL core odd):=by
  have:=ae4 h i;unfold thV;rcases l8 h i with ⟨e,e1,e2⟩ | ⟨e,e1⟩
  · rw [e1];simp only;omega
  · rw [e1];simp;omega
theorem wS (h:FOK p c core odd) {i k x:Int} (ei:Ex p c core odd i) (ek:Ex p c core odd k) (h1:kI (gT p c core odd i) x=true) (h2:kI (gT p c core odd k) x=true):i=k:=by
  obtain ⟨a1,a2⟩:=pV h.s ei h1;obtain ⟨b1,b2⟩:=pV h.s ek h2;rcases Int.lt_trichotomy i k with g | g | g
  · have:=h.ord i k g ei.r ek.r ei.n ek.n;omega
  · exact g
  · have:=h.ord k i g ek.r ei.r ek.n ei.n;omega
theorem aaZ {lo hi:Int} {l:List Sp} (h:SL lo hi l) (hn:l≠[]):kI l (lD l)=true:=by
  cases l with
  | nil=>exact absurd rfl hn
  | cons s r=>rw [lJ];have:=h.2.1;simp [lD,this]
structure CvS (pa ca:Int) (ka:List (List Sp)) (oa:List Gn) (p c:Int) (core:List (List Sp)) (odd:List Gn) (i:Int) (r:Int × Bool):Prop where
  y:r.2=true→Ex pa ca ka oa i∧Ex p c core odd r.1∧∀ x,kI (gT pa ca ka oa i) x=true→kI (gT p c core odd r.1) x=true
  n:r.2=false→r.1=0∧(Ex pa ca ka oa i→∀ m,Ex p c core odd m→¬ ∀ x,kI (gT pa ca ka oa i) x=true→kI (gT p c core odd m) x=true)
end
variable [Inhabited WT]
variable {p c pa ca:Int} {core ka:List (List Sp)} {odd oa:List Gn}
theorem adN (h:FOK p c core odd) (t:Int):∃ r,Ev (fun k=>jX.f k p c core odd t) r∧AtS p c core odd t r:=by
  obtain ⟨a,a1,a2⟩:=wO h t;unfold jX.f;cases ha:a.2 with
  | false =>
    refine ⟨(0,false),Ev.bind a1 (Ev.yes (by rw [ha];rfl) (Ev.now _)),⟨(fun e=>by cases e),fun _=>⟨rfl,fun m e => ?_⟩⟩⟩;refine Bool.eq_false_iff.2 fun hm => ?_;exact (a2.n ha).2 m e (pV h.s e hm).2
  | true =>
    obtain ⟨q1,q2,q3⟩:=a2.y ha;have g:=yj h.s a.1;rw [h.s.nV q1] at g;have hs:=h.s.qH q1;have hv:=aeY (gT p c core odd a.1) t hs (by have:=hs.adA;omega);cases hb:kI (gT p c core odd a.1) t with
    | true =>
      rw [hb] at hv;exact ⟨(a.1,true),Ev.bind a1 (Ev.no (by simp [ha]) (Ev.bind g (Ev.bind hv (Ev.no (by simp) (Ev.now _))))),⟨fun _=>⟨q1,hb⟩,(fun e=>by cases e)⟩⟩
    | false =>
      rw [hb] at hv;refine ⟨(0,false),Ev.bind a1 (Ev.no (by simp [ha]) (Ev.bind g (Ev.bind hv (Ev.yes rfl (Ev.now _))))),⟨(fun e=>by cases e),fun _=>⟨rfl,fun m e => ?_⟩⟩⟩;refine Bool.eq_false_iff.2 fun hm => ?_;obtain ⟨l1,l2⟩:=pV h.s e hm;have:=adC h a2 e l1 l2;rw [this] at hb;rw [hb] at hm;cases hm
theorem ab4 (ha:SF pa ca ka oa) (h:FOK p c core odd) (i:Int) (hl:(thV pa ca ka oa i).length≤100000) (hb:∀ m,(thV p c core odd m).length≤100000) :
    ∃ r,Ev (fun k=>iV.f k pa ca ka oa p c core odd i) r∧CvS pa ca ka oa p c core odd i r:=by
  simp only [iV.f,decide_eq_true_eq];rcases l8 ha i with ⟨e,e1,e2⟩ | ⟨e,e1⟩
  · have ev:thV pa ca ka oa i=gT pa ca ka oa i:=by unfold thV;rw [e1]
    have hne:¬ ((thV pa ca ka oa i).length:Int)=0:=fun q=>e2 (ev ▸ List.eq_nil_of_length_eq_zero (by omega));have hpos:(0:Int)<((thV pa ca ka oa i).length:Int):=by omega
    have hS:=ha.qH e;have aa:(gS (thV pa ca ka oa i) 0).f0=lD (gT pa ca ka oa i):=by rw [ev];exact (acA _ e2).2
    obtain ⟨a,a1,a2⟩:=adN h (lD (gT pa ca ka oa i));rw [← aa] at a1;cases hx:a.2 with
    | false =>
      refine ⟨(0,false),Ev.bind (kY ha i) (Ev.no hne (Ev.yes hpos (Ev.bind a1 (Ev.yes (by simp [hx]) (Ev.now _))))),(fun q=>by cases q),fun _=>⟨rfl,fun _ m hm q => ?_⟩⟩;have:=q _ (aaZ hS e2);rw [(a2.n hx).2 m hm] at this;cases this
    | true =>
      obtain ⟨q1,q2⟩:=a2.y hx;have ek:thV p c core odd a.1=gT p c core odd a.1:=by unfold thV;rw [h.s.nV q1]
      have w:=vG (thV pa ca ka oa i) (thV p c core odd a.1) (by have:=hb a.1;omega);have wi:=wQ (vH ha i) (vH h.s a.1);rw [ev,ek] at wi;cases hw:inS (thV pa ca ka oa i) (thV p c core odd a.1) with
      | true =>
        refine ⟨(a.1,true),Ev.bind (kY ha i) (Ev.no hne (Ev.yes hpos (Ev.bind a1 (Ev.no (by simp [hx]) (Ev.bind (kY h.s a.1) (Ev.bind w (Ev.no ?_ (Ev.now _)))))))),fun _=>⟨e,q1,?_⟩,fun q=>by cases q⟩
        · unfold inS at hw;simp [hw]
        · rw [ev,ek] at hw;exact wi.1 hw
      | false =>
        refine ⟨(0,false),Ev.bind (kY ha i) (Ev.no hne (Ev.yes hpos (Ev.bind a1 (Ev.no (by simp [hx]) (Ev.bind (kY h.s a.1) (Ev.bind w (Ev.yes ?_ (Ev.now _)))))))),(fun q=>by cases q),fun _=>⟨rfl,fun _ m hm q => ?_⟩⟩
        · unfold inS at hw;simp [hw]
        · have:m=a.1:=wS h hm q1 (q _ (aaZ hS e2)) q2
          subst this;rw [ev,ek,wi.2 q] at hw;cases hw
  · have ev:thV pa ca ka oa i=[]:=e1
    refine ⟨(0,false),Ev.bind (kY ha i) (Ev.yes (by rw [ev];rfl) (Ev.now _)),(fun q=>by cases q),fun _=>⟨rfl,fun q=>(e q).elim⟩⟩
end Go.Proofs.YtongeknogcboiaaGreat.Q

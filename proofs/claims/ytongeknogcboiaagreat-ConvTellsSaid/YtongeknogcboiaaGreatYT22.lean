/- Lemmas for laws of chapter 7: what the functions that they reach compute. No condition of its own. -/
import Derived.Test.YtongeknogcboiaaGreatYT21
import Derived.Test.YtongeknogcboiaaGreatYT18
namespace Go.Proofs.YtongeknogcboiaaGreat.Q
set_option linter.unusedVariables false
set_option linter.unusedSimpArgs false
open Go.RowKit Go.Proofs.YtongeknogcboiaaGreatW.gq Go.Proofs.YtongeknogcboiaaGreatW.iR M R P
section
theorem rdI (pre r:List Int) (s:Int):gI (pre++s :: r) (pre.length:Int)=s:=by simp [gI]
theorem af3 (k:Nat) (kind:Int) (x y:Bool):jQ.f k kind x y=some (kindOf kind x y):=by
  unfold jQ.f kindOf;by_cases h1:kind=1
  · simp only [h1,decide_true,if_true];cases x <;> cases y <;> rfl
  · simp only [h1,decide_false,if_false]
    by_cases h2:kind=2
    · simp only [h2,decide_true,if_true];cases x <;> cases y <;> rfl
    · simp only [h2,decide_false,if_false];cases x <;> cases y <;> rfl
theorem aei:@gW.f=@gH.f:=by kernel_rfl
theorem aej:@fU.l1=@fU.l0:=by kernel_rfl
end
variable [Inhabited WT]
theorem yA (l:List Sp) (x:Int) (hl:l.length≤9223372036854775807):Ev (fun k=>iy.f k l x) (kE l x):=by
  have key:∀ (rest pre:List Sp),l=pre++rest→Ev (fun k=>iy.l0 (some true) (some false) l x k (pre.length:Int)) (kE rest x):=by
    intro rest;induction rest with
    | nil =>
      intro pre hp;have c1:¬ (pre.length:Int)<(l.length:Int):=by rw [hp];simp
      refine Ev.step (fun k=>rfl) ?_;simp only [iy.l0,iy.l0T,decide_eq_true_eq,c1,if_false];exact Ev.now _
    | cons s r ih =>
      intro pre hp;have hlen:pre.length+1≤l.length:=by rw [hp];simp
      have hrd:gS l (pre.length:Int)=s:=by rw [hp];exact rdS _ _ _
      have c1:(pre.length:Int)<(l.length:Int):=by omega
      have c2:(0:Int)≤(pre.length:Int):=by omega
      have hw:=nx c1 c2 hl;have hi:=ih (pre++[s]) (by rw [hp];simp);rw [← len1] at hi;refine Ev.step (fun k=>rfl) ?_;simp only [iy.l0,iy.l0T,decide_eq_true_eq,c1,c2,hrd,hw,if_true];by_cases t0:s.f0≤x
      · refine Ev.yes t0 ?_
        by_cases t1:x≤s.f1
        · have:kE (s :: r) x=true:=by rw [kR];simp [t0,t1]
          rw [this];exact Ev.yes t1 (Ev.now _)
        · have:kE (s :: r) x=kE r x:=by rw [kR];simp [t1]
          rw [this];exact Ev.no t1 hi
      · have:kE (s :: r) x=kE r x:=by rw [kR];simp [t0]
        rw [this];exact Ev.no t0 hi
  exact key l [] rfl
theorem qE (l:List Int) (x:Int) (hl:l.length≤1000000000):Ev (fun k=>gH.f k l x) (ins l x):=by
  have done:∀ (rest pre out:List Int),l=pre++rest→out.length+rest.length≤1000000001→Ev (fun k=>gH.l0 (fun y1 y2=>(if (!y2)=true then (if y1.length+1≤17592186044416 then (some (y1++[x])) else none) else (some y1))) l x k out true (pre.length:Int)) (out++rest):=by
    intro rest;induction rest with
    | nil =>
      intro pre out hp hb;rw [List.append_nil];have c1:¬ (pre.length:Int)<(l.length:Int):=by rw [hp];simp
      refine Ev.step (fun k=>rfl) ?_;simp only [gH.l0,gH.l0T,decide_eq_true_eq,c1,if_false];exact Ev.now _
    | cons y r ih =>
      intro pre out hp hb;have hlen:pre.length+1≤l.length:=by rw [hp];simp
      have hrd:gI l (pre.length:Int)=y:=by rw [hp];exact rdI _ _ _
      have c1:(pre.length:Int)<(l.length:Int):=by omega
      have c2:(0:Int)≤(pre.length:Int):=by omega
      have hw:=nx c1 c2 (by omega);have c3:out.length+1≤17592186044416:=by simp at hb;omega
      have hi:=ih (pre++[y]) (out++[y]) (by rw [hp];simp) (by simp at hb ⊢;omega);rw [List.append_assoc,List.singleton_append,← len1] at hi;refine Ev.step (fun k=>rfl) ?_;simp only [gH.l0,gH.l0T,decide_eq_true_eq,c1,c2,c3,hrd,hw,if_true];by_cases e:y=x
      · exact Ev.yes e hi
      · exact Ev.no e (Ev.no (by simp) hi)
  have key:∀ (rest pre out:List Int),l=pre++rest→out.length+rest.length≤1000000000→Ev (fun k=>gH.l0 (fun y1 y2=>(if (!y2)=true then (if y1.length+1≤17592186044416 then (some (y1++[x])) else none) else (some y1))) l x k out false (pre.length:Int)) (out++ins rest x):=by
    intro rest;induction rest with
    | nil =>
      intro pre out hp hb;have c1:¬ (pre.length:Int)<(l.length:Int):=by rw [hp];simp
      have c3:out.length+1≤17592186044416:=by simp at hb;omega
      refine Ev.step (fun k=>rfl) ?_;simp only [gH.l0,gH.l0T,decide_eq_true_eq,c1,c3,if_false,if_true];exact Ev.now _
    | cons y r ih =>
      intro pre out hp hb;have hlen:pre.length+1≤l.length:=by rw [hp];simp
      have hrd:gI l (pre.length:Int)=y:=by rw [hp];exact rdI _ _ _
      have c1:(pre.length:Int)<(l.length:Int):=by omega
      have c2:(0:Int)≤(pre.length:Int):=by omega
      have hw:=nx c1 c2 (by omega);have c3:out.length+1≤17592186044416:=by simp at hb;omega
      have c4:(out++[x]).length+1≤17592186044416:=by simp at hb ⊢;omega
      have hp2:l=(pre++[y])++r:=by rw [hp];simp
      refine Ev.step (fun k=>rfl) ?_;simp only [gH.l0,gH.l0T,decide_eq_true_eq,c1,c2,c3,c4,hrd,hw,if_true];simp only [ins];by_cases e:y=x
      · rw [if_pos e]
        have hi:=done r (pre++[y]) (out++[y]) hp2 (by simp at hb ⊢;omega);rw [List.append_assoc,List.singleton_append,← len1] at hi;exact Ev.yes e hi
      · rw [if_neg e]
        refine Ev.no e (Ev.yes (by simp) ?_);by_cases e2:y>x
        · rw [if_pos e2]
          have hi:=done r (pre++[y]) (out++[x]++[y]) hp2 (by simp at hb ⊢;omega);have ea:out++[x]++[y]++r=out++x :: y :: r:=by simp
          rw [ea,← len1] at hi;exact Ev.yes e2 hi
        · rw [if_neg e2]
          have hi:=ih (pre++[y]) (out++[y]) hp2 (by simp at hb ⊢;omega);rw [List.append_assoc,List.singleton_append,← len1] at hi;exact Ev.no e2 hi
  exact key l [] [] rfl (by simpa using hl)
def aau (l:List Sp):Prop:=∀ s∈l,-4611686018427387904≤s.f1∧s.f1≤4611686018427387904
theorem tN {β:Type} (a:List Sp) (ha:aau a) (hl:a.length≤100000000) {r:β}:∀ (rest pre:List Sp) (p:List Int) (Y:Nat→List Int→Option β),a=pre++rest→p.length+2*rest.length≤900000000→Ev (fun k=>Y k (plc rest p)) r→Ev (fun k=>fU.l0 (Y k) a k p (pre.length:Int)) r:=by
  intro rest;induction rest with
  | nil =>
    intro pre p Y hp hn hY;have c1:¬ (pre.length:Int)<(a.length:Int):=by rw [hp];simp
    refine Ev.step (fun k=>rfl) ?_;simp only [fU.l0,fU.l0T,decide_eq_true_eq,c1,if_false];exact Ev.shift hY
  | cons s r ih =>
    intro pre p Y hp hn hY;have hlen:pre.length+1≤a.length:=by rw [hp];simp
    have hrd:gS a (pre.length:Int)=s:=by rw [hp];exact rdS _ _ _
    have c1:(pre.length:Int)<(a.length:Int):=by omega
    have c2:(0:Int)≤(pre.length:Int):=by omega
    have hw:=nx c1 c2 (by omega);have hs:=ha s (by rw [hp];simp);have hw2:wq (s.f1+1)=s.f1+1:=jf (by omega) (by omega);have l1:=vR p s.f0;have l2:=vR (ins p s.f0) (s.f1+1);simp only [List.length_cons] at hn;have hi:=ih (pre++[s]) (ins (ins p s.f0) (s.f1+1)) (fun k=>Y (k+1)) (by rw [hp];simp) (by omega) (Ev.shift hY);rw [← len1] at hi;refine Ev.step (fun k=>rfl) ?_;simp only [fU.l0,fU.l0T,decide_eq_true_eq,c1,c2,hrd,hw,hw2,if_true];exact Ev.bind (qE p s.f0 (by omega)) (Ev.bind (qE _ _ (by omega)) hi)
theorem yB (a b:List Sp) (ha:aau a) (hb:aau b) (hl:a.length+b.length≤100000000):Ev (fun k=>fU.f k a b) (plc b (plc a [])):=by
  unfold fU.f;simp only [aej];have:=zn a [];simp at this;exact tN a ha (by omega) a [] [] _ rfl (by simp;omega) (tN b hb (by omega) b [] _ (fun _ y=>some y) rfl (by omega) (Ev.now _))
theorem zC (kind:Int) (a b:List Sp) (ha:a.length≤100000000) (hb:b.length≤100000000) (p:List Int) (hp:p.length≤900000000) (hr:∀ z∈p,-4611686018427387904≤z∧z≤4611686018427387905) :
    ∀ (rest pre:List Int) (out:List Sp),p=pre++rest→out.length≤pre.length→Ev (fun k=>gN.l0 (fun y=>some y) kind a b p k out (pre.length:Int)) (sV (fun x=>kindOf kind (kE a x) (kE b x)) out rest):=by
  intro rest;induction rest with
  | nil =>
    intro pre out h hn;have hpl:pre.length=p.length:=by rw [h];simp
    have hw:wq ((pre.length:Int)+1)=(pre.length:Int)+1:=jf (by omega) (by omega);have c1:¬ (pre.length:Int)+1<(p.length:Int):=by omega
    refine Ev.step (fun k=>rfl) ?_;simp only [gN.l0,gN.l0T,decide_eq_true_eq,hw,c1,if_false];exact Ev.now _
  | cons x r ih =>
    intro pre out h hn;have hlen:pre.length+1≤p.length:=by rw [h];simp
    have hw:wq ((pre.length:Int)+1)=(pre.length:Int)+1:=jf (by omega) (by omega);cases r with
    | nil =>
      have c1:¬ (pre.length:Int)+1<(p.length:Int):=by rw [h];simp
      refine Ev.step (fun k=>rfl) ?_;simp only [gN.l0,gN.l0T,decide_eq_true_eq,hw,c1,if_false];exact Ev.now _
    | cons y r =>
      have c0:(pre.length:Int)+1<(p.length:Int):=by rw [h];simp;omega
      have c1:(pre.length:Int)<(p.length:Int):=by omega
      have c2:(0:Int)≤(pre.length:Int):=by omega
      have c20:(0:Int)≤(pre.length:Int)+1:=by omega
      have hrx:gI p (pre.length:Int)=x:=by rw [h];exact rdI _ _ _
      have aa:gI p ((pre.length:Int)+1)=y:=by rw [h,show pre++x :: y :: r=(pre++[x])++y :: r by simp,len1 pre x];exact rdI _ _ _
      have bx:=hr x (by rw [h];simp);have ab:=hr y (by rw [h];simp);have wx:wq (x - 1)=x - 1:=jf (by omega) (by omega);have wy:wq (y - 1)=y - 1:=jf (by omega) (by omega);have h2:p=(pre++[x])++y :: r:=by rw [h];simp
      have c3:out.length+1≤8796093022208:=by omega
      refine Ev.step (fun k=>rfl) ?_;simp only [gN.l0,gN.l0T,decide_eq_true_eq,hw,c0,c1,c2,c20,c3,hrx,aa,wx,wy,if_true,af3,Option.bind_some];refine Ev.bind (yA a x (by omega)) (Ev.bind (yA b x (by omega)) ?_);simp only [sV];by_cases hk:kindOf kind (kE a x) (kE b x)=true
      · simp only [hk,if_true]
        refine Ev.no (by simp) ?_;have hj:(join out x y).length≤out.length+1:=by
          rcases List.eq_nil_or_concat out with rfl | ⟨o,z,rfl⟩
          · simp [join_nil]
          · rw [List.concat_eq_append,sU];split <;> simp
        have hi:=ih (pre++[x]) (join out x y) h2 (by simp;omega);rw [← len1] at hi;rcases List.eq_nil_or_concat out with rfl | ⟨o,z,rfl⟩
        · rw [join_nil] at hi
          exact Ev.no (by simp) hi
        · rw [List.concat_eq_append] at *
          have ql:((o++[z]).length:Int)=(o.length:Int)+1:=by simp
          have q1:wq (((o++[z]).length:Int) - 1)=(o.length:Int):=by
            simp only [List.length_append,List.length_singleton] at c3;rw [ql,jf (by omega) (by omega)];omega
          have q2:gS (o++[z]) (o.length:Int)=z:=rdS _ _ _;have q3:(0:Int)≤(o.length:Int):=by omega
          have q4:(o.length:Int)<((o++[z]).length:Int):=by rw [ql];omega
          have q5:((o++[z]).length:Int)>0:=by rw [ql];omega
          simp only [q1,q2,q3,q4,q5,if_true];rw [sU] at hi ⊢;by_cases e:z.f1=x - 1
          · rw [if_pos e] at hi ⊢
            refine Ev.yes e ?_;have:(o++[z]).set (Int.toNat (o.length:Int)) (⟨z.f0,y - 1⟩:Sp)=o++[⟨z.f0,y - 1⟩]:=by simp
            rw [this];exact hi
          · rw [if_neg e] at hi ⊢
            exact Ev.no e hi
      · have hi:=ih (pre++[x]) out h2 (by simp;omega)
        rw [← len1] at hi;rw [Bool.not_eq_true] at hk;simp only [hk,Bool.not_false,Bool.false_eq_true,if_true,if_false];exact hi
theorem qF (kind:Int) (lo hi:Int) (hlo : -4611686018427387904≤lo) (hh:hi≤4611686018427387904) (a b:List Sp) (ha:∀ s∈a,lo≤s.f0∧s.f0≤s.f1∧s.f1≤hi) (hb:∀ s∈b,lo≤s.f0∧s.f0≤s.f1∧s.f1≤hi) (hl:a.length+b.length≤100000000) :
    ∃ r,Ev (fun k=>gN.f k kind a b) r∧SL lo hi r∧∀ x,kE r x=kindOf kind (kE a x) (kE b x):=by
  have hy:kindOf kind false false=false:=by unfold kindOf;split <;> simp
  obtain ⟨h1,h2⟩:=zq (kindOf kind) hy ha hb;refine ⟨_,?_,h1,h2⟩;have hpl:=zn b (plc a []);have aa:=zn a [];simp at aa;have hr:∀ z∈plc b (plc a []),-4611686018427387904≤z∧z≤4611686018427387905:=by
    intro z hz;rw [vS,vS] at hz;rcases hz with (hz | ⟨s,hs,h⟩) | ⟨s,hs,h⟩
    · simp at hz
    · have:=ha s hs;rcases h with rfl | rfl <;> omega
    · have:=hb s hs;rcases h with rfl | rfl <;> omega
  exact Ev.bind (yB a b (fun s hs=>by have:=ha s hs;omega) (fun s hs=>by have:=hb s hs;omega) hl) (zC kind a b (by omega) (by omega) _ (by omega) hr _ [] [] rfl (by simp))
theorem abl (l:List Sp) (n:Int) (hs:SL (-1099511627776) 1099511627776 l) (hn : -9223372036854775808≤n∧n≤9223372036854775807):Ev (fun k=>gX.f k l n) (nN n l):=by
  have hl:=SL.len (lo:=0) hs;have key:∀ (rest pre:List Sp),l=pre++rest→pre.all (okM n)=true→Ev (fun k=>gX.l0 (fun y1=>some ([],20)) (fun y2=>some (y2,0)) l n k (pre.map (mD n)) (pre.length:Int)) (nN n l):=by
    intro rest;induction rest with
    | nil =>
      intro pre hp hok;have e:l=pre:=by rw [hp];simp
      have c1:¬ (pre.length:Int)<(l.length:Int):=by rw [hp];simp
      refine Ev.step (fun k=>rfl) ?_;simp only [gX.l0,gX.l0T,decide_eq_true_eq,c1,if_false];rw [e];unfold nN;rw [if_pos hok];exact Ev.now _
    | cons s r ih =>
      intro pre hp hok;have hlen:pre.length+1≤l.length:=by rw [hp];simp
      have hrd:gS l (pre.length:Int)=s:=by rw [hp];exact rdS _ _ _
      have c1:(pre.length:Int)<(l.length:Int):=by omega
      have c2:(0:Int)≤(pre.length:Int):=by omega
      have hw:=nx c1 c2 (by omega);have c3:(pre.map (mD n)).length+1≤8796093022208:=by rw [List.length_map];omega
      have ht:=SL.ticks hs (s:=s) (by rw [hp];simp);have w1:wq (1099511627776 - s.f1)=1099511627776 - s.f1:=jf (by omega) (by omega);have w2:wq ((-1099511627776) - s.f0) = -1099511627776 - s.f0:=jf (by omega) (by omega);have bad:okM n s=false→nN n l=([],20):=fun h=>by
        unfold nN;rw [if_neg (by rw [hp,List.all_append,List.all_cons,h];simp)]
      refine Ev.step (fun k=>rfl) ?_;simp only [gX.l0,gX.l0T,decide_eq_true_eq,c1,c2,c3,hrd,hw,w1,w2,if_true];by_cases g1:n>1099511627776 - s.f1
      · rw [bad (by rw [Bool.eq_false_iff];intro e;have:=qQ.1 e;omega)]
        exact Ev.yes g1 (Ev.now _)
      · refine Ev.no g1 ?_
        by_cases g2:n < -1099511627776 - s.f0
        · rw [bad (by rw [Bool.eq_false_iff];intro e;have:=qQ.1 e;omega)]
          exact Ev.yes g2 (Ev.now _)
        · refine Ev.no g2 ?_
          have hi:=ih (pre++[s]) (by rw [hp];simp) (by
            have:okM n s=true:=qQ.2 (by omega);rw [List.all_append,hok];simp [this])
          rw [List.map_append,← len1] at hi;rw [jf (n:=s.f0+n) (by omega) (by omega),jf (n:=s.f1+n) (by omega) (by omega)];exact hi
  exact key l [] rfl rfl
end Go.Proofs.YtongeknogcboiaaGreat.Q
namespace Go.Proofs.YtongeknogcboiaaGreat.Q
set_option linter.unusedVariables false
set_option linter.unusedSimpArgs false
open Go.RowKit Go.Proofs.YtongeknogcboiaaGreatW.gq Go.Proofs.YtongeknogcboiaaGreatW.iR M R P
section
variable {p c:Int} {core:List (List Sp)} {odd:List Gn}
theorem pig (d:Int) (hd:d≠0):∀ (n:Nat) (l:List Gn) (x:Int),l.length≤n→∃ j:Nat,j≤n∧∀ g∈l,g.f0≠x+(j:Int)*d:=by
  intro n;induction n with
  | zero =>
    intro l x hl;have:l=[]:=List.eq_nil_of_length_eq_zero (by omega);subst this;exact ⟨0,Nat.le_refl _,fun g hg=>by cases hg⟩
  | succ n ih =>
    intro l x hl;by_cases h:∃ g∈l,g.f0=x
    · have hlt:(l.filter fun g=>decide (g.f0≠x)).length<l.length:=by
        refine List.length_filter_lt_length_iff_exists.2 ?_;obtain ⟨g,g1,g2⟩:=h;exact ⟨g,g1,by simp [g2]⟩
      obtain ⟨j,j1,j2⟩:=ih (l.filter fun g=>decide (g.f0≠x)) (x+d) (by omega);refine ⟨j+1,by omega,fun g hg e => ?_⟩;have e0:((j+1:Nat):Int)*d=(j:Int)*d+d:=by rw [Int.natCast_add,Int.add_mul];simp
      by_cases q:g.f0=x
      · have:((j+1:Nat):Int)*d≠0:=Int.mul_ne_zero (by omega) hd
        omega
      · exact j2 g (List.mem_filter.2 ⟨hg,by simp [q]⟩) (by omega)
    · exact ⟨0,by omega,fun g hg e=>h ⟨g,hg,by simpa using e⟩⟩
structure Fnd (s:Int) (T:Int→Prop) (b:Bool) (a:Int):Prop where
  y:b=true→T a∧∀ m,T m→0≤(m - a)*s
  n:b=false→a=0∧∀ m,¬ T m
theorem Fnd.to {s:Int} {T U:Int→Prop} {b:Bool} {a:Int} (h:Fnd s T b a) (e:∀ m,T m↔U m):Fnd s U b a:=⟨fun q=>⟨(e a).1 (h.y q).1,fun m hm=>(h.y q).2 m ((e m).2 hm)⟩,fun q=>⟨(h.n q).1,fun m hm=>(h.n q).2 m ((e m).2 hm)⟩⟩
theorem Fnd.put {s:Int} {T:Int→Prop} {a:Int} (h:Fnd s T false a) (x:Int):Fnd s (fun m=>T m∨m=x) true x:=⟨fun _=>⟨Or.inr rfl,fun m hm=>by
  rcases hm with hm | rfl
  · exact absurd hm ((h.n rfl).2 m)
  · simp⟩,fun q=>by cases q⟩
theorem Fnd.less {s:Int} (hs:s=1∨s = -1) {T:Int→Prop} {a x:Int} (h:Fnd s T true a) (hl:(x - a)*s<0):Fnd s (fun m=>T m∨m=x) true x:=⟨fun _=>⟨Or.inr rfl,fun m hm=>by
  rcases hm with hm | rfl
  · have:=(h.y rfl).2 m hm
    rcases hs with rfl | rfl <;> omega
  · simp⟩,fun q=>by cases q⟩
theorem Fnd.keep {s:Int} {T:Int→Prop} {a x:Int} (h:Fnd s T true a) (hl:¬ (x - a)*s<0):Fnd s (fun m=>T m∨m=x) true a:=⟨fun _=>⟨Or.inl (h.y rfl).1,fun m hm=>by
  rcases hm with hm | rfl
  · exact (h.y rfl).2 m hm
  · omega⟩,fun q=>by cases q⟩
def T1 (odd:List Gn) (i s:Int) (n:Nat) (m:Int):Prop:=∃ j:Nat,∃ hj:j<odd.length,j<n∧odd[j].f0=m∧odd[j].f1≠[]∧0≤(m - i)*s
def T2 (c:Int) (core:List (List Sp)) (odd:List Gn) (i s:Int) (n:Nat) (m:Int):Prop:=T1 odd i s odd.length m∨∃ q:Nat,q<n∧m=i+(q:Int)*s∧fs c core odd m≠[]
theorem ac5 {i s:Int} {n:Nat} (hn:n<odd.length) (h1:odd[n].f1≠[]) (h2:0≤(odd[n].f0 - i)*s) (m:Int):(T1 odd i s n m∨m=odd[n].f0)↔T1 odd i s (n+1) m:=by
  constructor
  · rintro (⟨j,hj,a,b⟩ | rfl)
    · exact ⟨j,hj,by omega,b⟩
    · exact ⟨n,hn,by omega,rfl,h1,h2⟩
  · rintro ⟨j,hj,a,b,d⟩
    rcases Nat.lt_or_ge j n with g | g
    · exact Or.inl ⟨j,hj,g,b,d⟩
    · have:j=n:=by omega
      subst this;exact Or.inr b.symm
theorem ahd {i s:Int} {n:Nat} (hn:n<odd.length) (h:¬ (odd[n].f1≠[]∧0≤(odd[n].f0 - i)*s)) (m:Int):T1 odd i s n m↔T1 odd i s (n+1) m:=by
  constructor
  · rintro ⟨j,hj,a,b⟩
    exact ⟨j,hj,by omega,b⟩
  · rintro ⟨j,hj,a,b,d1,d2⟩
    rcases Nat.lt_or_ge j n with g | g
    · exact ⟨j,hj,g,b,d1,d2⟩
    · have:j=n:=by omega
      subst this;subst b;exact absurd ⟨d1,d2⟩ h
theorem ac6 {i s:Int} {n:Nat} (h1:fs c core odd (i+(n:Int)*s)≠[]) (m:Int):(T2 c core odd i s n m∨m=i+(n:Int)*s)↔T2 c core odd i s (n+1) m:=by
  constructor
  · rintro ((a | ⟨j,a,b⟩) | rfl)
    · exact Or.inl a
    · exact Or.inr ⟨j,by omega,b⟩
    · exact Or.inr ⟨n,by omega,rfl,h1⟩
  · rintro (a | ⟨j,a,b,d⟩)
    · exact Or.inl (Or.inl a)
    · rcases Nat.lt_or_ge j n with g | g
      · exact Or.inl (Or.inr ⟨j,g,b,d⟩)
      · have:j=n:=by omega
        subst this;exact Or.inr b
theorem aic {i s:Int} {n:Nat} (h:fs c core odd (i+(n:Int)*s)=[]) (m:Int):T2 c core odd i s n m↔T2 c core odd i s (n+1) m:=by
  constructor
  · rintro (a | ⟨j,a,b⟩)
    · exact Or.inl a
    · exact Or.inr ⟨j,by omega,b⟩
  · rintro (a | ⟨j,a,b,d⟩)
    · exact Or.inl a
    · rcases Nat.lt_or_ge j n with g | g
      · exact Or.inr ⟨j,g,b,d⟩
      · have:j=n:=by omega
        subst this;subst b;exact absurd h d
theorem aeP (h:SF p c core odd) {i s:Int} (hs:s=1∨s = -1) (hi:inR i) {K:Nat} (hK:(K:Int)=c*((odd.length:Int)+1)+2∨¬ inR (i+(K:Int)*s)) {m:Int} (hm:inR m) (h0:0≤(m - i)*s) (hn:fs c core odd m≠[]):∃ x,T2 c core odd i s K x∧0≤(m - x)*s:=by
  cases ho:jU odd m with
  | some l =>
    obtain ⟨g,g1,g2,g3⟩:=lT ho;obtain ⟨j,hj,rfl⟩:=List.getElem_of_mem g1;refine ⟨m,Or.inl ⟨j,hj,hj,g2,?_,h0⟩,by simp⟩;have:fs c core odd m=l:=by unfold fs;rw [ho]
    rw [g3,← this];exact hn
  | none =>
    have hf:fs c core odd m=iZ c core m:=by unfold fs;rw [ho]
    rw [hf] at hn;obtain ⟨c0,_⟩:=nD h hn;obtain ⟨q,hq⟩:∃ q:Nat,(q:Int)=(m - i)*s:=⟨((m - i)*s).toNat,by omega⟩;have aa:m=i+(q:Int)*s:=by rcases hs with rfl | rfl <;> omega
    rcases Nat.lt_or_ge q K with g | g
    · exact ⟨m,Or.inr ⟨q,g,aa,by rw [hf];exact hn⟩,by simp⟩
    · have hK':(K:Int)=c*((odd.length:Int)+1)+2:=by
        rcases hK with e | e
        · exact e
        · exfalso
          apply e
          unfold inR at hi hm ⊢;rcases hs with rfl | rfl <;> omega
      obtain ⟨cn,rfl⟩:∃ n:Nat,c=(n:Int):=⟨c.toNat,by omega⟩;have hr:q % cn<cn:=Nat.mod_lt _ (by omega);obtain ⟨j,j1,j2⟩:=pig ((cn:Int)*s) (by rcases hs with rfl | rfl <;> omega) odd.length odd (i+((q % cn:Nat):Int)*s) (Nat.le_refl _);have e0:i+((q % cn:Nat):Int)*s+(j:Int)*((cn:Int)*s)=i+((q % cn+j*cn:Nat):Int)*s:=by
        rw [Int.natCast_add,Int.natCast_mul,Int.add_mul,Int.mul_assoc,Int.add_assoc]
      have hjc:j*cn≤odd.length*cn:=Nat.mul_le_mul_right _ j1;have hKn:K=cn*(odd.length+1)+2:=by
        have:(K:Int)=((cn*(odd.length+1)+2:Nat):Int):=by rw [hK'];simp
        omega
      rw [Nat.mul_add,Nat.mul_comm cn odd.length] at hKn;have hlt:q % cn+j*cn<K:=by omega
      refine ⟨i+((q % cn+j*cn:Nat):Int)*s,Or.inr ⟨_,hlt,rfl,?_⟩,?_⟩
      · have ho2:jU odd (i+((q % cn+j*cn:Nat):Int)*s)=none:=o7.2 (fun g hg e=>j2 g hg (by rw [e0];exact e))
        have:fs (cn:Int) core odd (i+((q % cn+j*cn:Nat):Int)*s)=iZ (cn:Int) core (i+((q % cn+j*cn:Nat):Int)*s):=by unfold fs;rw [ho2]
        rw [this];have hmod:(i+((q % cn+j*cn:Nat):Int)*s) % (cn:Int)=m % (cn:Int):=by
          have hq2:(q:Int)=((q % cn:Nat):Int)+(cn:Int)*((q / cn:Nat):Int):=by have:=Nat.mod_add_div q cn;rw [← Int.natCast_mul,← Int.natCast_add,this]
          have:i+((q % cn+j*cn:Nat):Int)*s=m+(cn:Int)*(((j:Int) - ((q / cn:Nat):Int))*s):=by
            rw [aa,hq2,Int.natCast_add,Int.natCast_mul];rcases hs with rfl | rfl
            · simp only [Int.mul_one,Int.mul_sub,Int.mul_comm (j:Int)];omega
            · simp only [Int.mul_neg,Int.mul_one,Int.mul_sub,Int.neg_sub,Int.mul_comm (j:Int)];omega
          rw [this,Int.add_mul_emod_self_left]
        unfold iZ at hn ⊢;rw [hmod];exact hn
      · rw [aa]
        have:(q % cn+j*cn:Nat)≤q:=by omega
        rcases hs with rfl | rfl <;> omega
end
variable [Inhabited WT]
variable {p c:Int} {core:List (List Sp)} {odd:List Gn}
theorem tO (k:Nat) (a b:Int) (ha : -4611686018427387904≤a∧a≤4611686018427387904) (hb:0<b∧b≤4611686018427387904):iY.f k a b=some (a / b,a % b):=by
  have h1:=Int.emod_nonneg a (show b≠0 by omega);have h2:=Int.emod_lt_of_pos a hb.1;have h3:=Int.mul_ediv_add_emod a b;have hq:=tF ha hb.1;have b0:¬ b=0:=by omega
  unfold iY.f;simp only [b0,if_false,decide_eq_true_eq];have ht:=Int.tmod_add_mul_tdiv a b;rcases Int.lt_or_le a 0 with hneg | hpos
  · by_cases hz:Int.tmod a b=0
    · have hdvd:b ∣ a:=Int.dvd_of_tmod_eq_zero hz
      have e1:a % b=0:=Int.emod_eq_zero_of_dvd hdvd;have e2:Int.tdiv a b=a / b:=by
        have:b*Int.tdiv a b=b*(a / b):=by rw [hz] at ht;omega
        exact Int.eq_of_mul_eq_mul_left (by omega) this
      simp only [hz,e2,e1];rw [jf (n:=a / b) (by omega) (by omega)];simp
    · have t1:Int.tmod a b≤0:=(by have h0:=Int.tmod_nonneg b (show 0 ≤ -a by omega);rw [Int.neg_tmod] at h0;omega)
      have t2 : -b<Int.tmod a b:=by
        have:=Int.lt_tmod_of_pos a hb.1;omega
      have e2:Int.tdiv a b=a / b+1:=by
        have k1:b*(a / b - Int.tdiv a b)=Int.tmod a b - a % b:=by rw [Int.mul_sub];omega
        have k2:a / b - Int.tdiv a b<0:=by
          rcases Int.lt_or_le (a / b - Int.tdiv a b) 0 with g | g
          · exact g
          · have:0≤b*(a / b - Int.tdiv a b):=Int.mul_nonneg (by omega) g
            omega
        have k3 : -2<a / b - Int.tdiv a b:=by
          rcases Int.lt_or_le (-2) (a / b - Int.tdiv a b) with g | g
          · exact g
          · have:b*(a / b - Int.tdiv a b)≤b*(-2):=Int.mul_le_mul_of_nonneg_left g (by omega)
            omega
        omega
      have e1:Int.tmod a b+b=a % b:=by
        have:b*Int.tdiv a b=b*(a / b)+b:=by rw [e2,Int.mul_add,Int.mul_one]
        omega
      have a1:Int.tmod a b<0:=by omega
      simp only [a1,e2,e1,if_true];rw [jf (n:=a / b+1) (by omega) (by omega),jf (n:=a / b+1 - 1) (by omega) (by omega),jf (n:=a % b) (by omega) (by omega)];simp
  · have e1:Int.tmod a b=a % b:=Int.tmod_eq_emod_of_nonneg hpos
    have e2:Int.tdiv a b=a / b:=Int.tdiv_eq_ediv_of_nonneg hpos;have a1:¬ a % b<0:=by omega
    simp only [e1,e2,a1,if_false];rw [jf (n:=a / b) (by omega) (by omega)]
theorem tQ (h:SF p c core odd) (i:Int) (hi : -4611686018427387904≤i∧i≤4611686018427387904):∃ q,Ev (fun k=>gY.f k p c core odd i) (fs c core odd i,q)∧fb p c odd i=q*p∧(c=0→q=0) ∧ -4611686018427387904≤q∧q≤4611686018427387904:=by
  have hlo:=h.hlo;have hc0:=h.hc;have key:∀ (X:Option ((List Sp) × Int)) (v:(List Sp) × Int),(jU odd i=none→X=some v)→∀ (rest pre:List Gn),odd=pre++rest→jU odd i=jU rest i→Ev (fun k=>gY.l0 (fun y1=>some (y1,(0:Int))) X i odd k (pre.length:Int)) (match jU rest i with | some l=>(l,0) | none=>v):=by
    intro X v hX rest;induction rest with
    | nil =>
      intro pre hp he;have c1:¬ (pre.length:Int)<(odd.length:Int):=by rw [hp];simp
      refine Ev.step (fun k=>rfl) ?_;simp only [gY.l0,gY.l0T,decide_eq_true_eq,c1,if_false,jU];rw [hX he];exact Ev.now _
    | cons g r ih =>
      intro pre hp he;have hlen:pre.length+1≤odd.length:=by rw [hp];simp
      have hrd:gG odd (pre.length:Int)=g:=by simp [hp,gG]
      have c1:(pre.length:Int)<(odd.length:Int):=by omega
      have c2:(0:Int)≤(pre.length:Int):=by omega
      have hw:=nx c1 c2 (by omega);refine Ev.step (fun k=>rfl) ?_;simp only [gY.l0,gY.l0T,decide_eq_true_eq,c1,c2,hrd,hw,if_true];simp only [jU] at he ⊢;by_cases e:g.f0=i
      · rw [if_pos e]
        exact Ev.yes e (Ev.now _)
      · rw [if_neg e] at he ⊢
        have hi2:=ih (pre++[g]) (by rw [hp];simp) he;rw [← len1] at hi2;exact Ev.no e hi2
  unfold gY.f;by_cases hc:c=0
  · have:=key (some ([],(0:Int))) ([],0) (fun _=>rfl) odd [] rfl rfl
    refine ⟨0,?_,?_,fun _=>rfl,by omega,by omega⟩
    · simp only [hc,decide_true,if_true]
      have e:(fs 0 core odd i,(0:Int))=(match jU odd i with | some l=>(l,0) | none=>([],0)):=by
        unfold fs iZ;cases jU odd i with
        | some l=>rfl
        | none=>simp
      rw [e];exact this
    · unfold fb
      cases jU odd i with
      | some l=>simp
      | none=>simp [hc]
  · have h1:=Int.emod_nonneg i hc
    have h2:=Int.emod_lt_of_pos i (show 0<c by omega);have hq:=tF (b:=c) hi (by omega);have hl:=h.hl;have hX:∀ k,(if (decide (c=0))=true then (some ([],(0:Int))) else ((iY.f k i c).bind fun t2=>(if 0≤t2.2 then (if t2.2<(core.length:Int) then (some ((gL core t2.2),t2.1)) else none) else none)))=some (iZ c core i,i / c):=by
      intro k;have c3:i % c<(core.length:Int):=by omega
      rw [tO k i c hi (by omega)];simp only [hc,decide_false,Bool.false_eq_true,if_false,Option.bind_some,h1,c3,if_true];unfold iZ;rw [if_neg hc]
    simp only [hX];have:=key (some (iZ c core i,i / c)) (iZ c core i,i / c) (fun _=>rfl) odd [] rfl rfl;cases ho:jU odd i with
    | some l =>
      refine ⟨0,?_,by simp [fb,ho],fun _=>rfl,by omega,by omega⟩;rw [ho] at this;have e:fs c core odd i=l:=by unfold fs;rw [ho]
      rw [e];exact this
    | none =>
      refine ⟨i / c,?_,by simp [fb,ho],fun e=>absurd e hc,by omega,by omega⟩;rw [ho] at this;have e:fs c core odd i=iZ c core i:=by unfold fs;rw [ho]
      rw [e];exact this
theorem zD (h:SF p c core odd) (i:Int) (hi : -4611686018427387904≤i∧i≤4611686018427387904):Ev (fun k=>jL.f k p c core odd i) (decide (fs c core odd i≠[])):=by
  obtain ⟨q,q1,_⟩:=tQ h i hi;unfold jL.f;refine Ev.bind q1 ?_;have:decide (((fs c core odd i).length:Int)>0)=decide (fs c core odd i≠[]):=by
    cases fs c core odd i with
    | nil=>simp
    | cons a l=>simp
  simp only [this];exact Ev.now _
end Go.Proofs.YtongeknogcboiaaGreat.Q
namespace Go.Proofs.YtongeknogcboiaaGreat.Q
set_option linter.unusedVariables false
set_option linter.unusedSimpArgs false
open Go.RowKit Go.Proofs.YtongeknogcboiaaGreatW.gq Go.Proofs.YtongeknogcboiaaGreatW.iR M R P
section
variable {p c:Int} {core:List (List Sp)} {odd:List Gn}
theorem abm {l:List Sp} (h:SL (-1099511627776) 1099511627776 l):nN 0 l=(l,0):=by
  unfold nN;rw [if_pos (List.all_eq_true.2 fun s hs=>qQ.2 (by have:=SL.ticks h hs;omega))];have:l.map (mD 0)=l:=(List.map_congr_left (fun s _=>show mD 0 s=id s by simp [mD])).trans (List.map_id l);rw [this]
theorem aeQ (h:SF p c core odd) {i s m:Int} {n:Nat} (t:T1 odd i s n m):inR m:=by
  obtain ⟨j,hj,_,e,_⟩:=t;rw [← e];exact h.hidx _ (List.getElem_mem hj)
theorem aeR (h:SF p c core odd) {i s m:Int} {n:Nat} (hw:∀ q:Nat,q<n→inR (i+(q:Int)*s)) (t:T2 c core odd i s n m):inR m:=by
  rcases t with t | ⟨q,q1,q2,_⟩
  · exact aeQ h t
  · rw [q2];exact hw q q1
theorem af4 {i s m:Int}:¬ T1 odd i s 0 m:=fun ⟨_,_,a,_⟩=>by omega
structure Nrs (c:Int) (core:List (List Sp)) (odd:List Gn) (s i:Int) (r:Int × Bool):Prop where
  y:r.2=true→0≤(r.1 - i)*s∧inR r.1∧fs c core odd r.1≠[]∧∀ m,0≤(m - i)*s→(m - r.1)*s<0→fs c core odd m=[]
  n:r.2=false→r.1=0∧∀ m,0≤(m - i)*s→inR m→fs c core odd m=[]
  w:r.2=true→(∃ g∈odd,g.f0=r.1)∨∃ q:Nat,(q:Int)≤c*((odd.length:Int)+1)+2∧r.1=i+(q:Int)*s
theorem aeS (h:SF p c core odd) {i s:Int} (hs:s=1∨s = -1) (hi:inR i) {K:Nat} (hK:(K:Int)=c*((odd.length:Int)+1)+2∨¬ inR (i+(K:Int)*s)) (hF:(K:Int)≤c*((odd.length:Int)+1)+2) (hw:∀ q:Nat,q<K→inR (i+(q:Int)*s)) {b:Bool} {a:Int} (f:Fnd s (T2 c core odd i s K) b a):Nrs c core odd s i (a,b):=by
  refine ⟨fun e => ?_,fun e => ?_,fun e => ?_⟩
  · obtain ⟨t,lo⟩:=f.y e
    have ha:=aeR h hw t;have h0:0≤(a - i)*s:=by
      rcases t with ⟨j,hj,_,e1,_,e2⟩ | ⟨q,_,e1,_⟩
      · exact e2
      · rcases hs with rfl | rfl <;> omega
    refine ⟨h0,ha,?_,fun m m1 m2 => ?_⟩
    · rcases t with ⟨j,hj,_,e1,e2,_⟩ | ⟨q,_,_,e1⟩
      · have:=uO h hj
        rw [e1] at this;show fs c core odd a≠[];rw [this];exact e2
      · exact e1
    · refine Classical.byContradiction fun hne => ?_
      have hm:inR m:=by
        simp only at m2;unfold inR at hi ha ⊢;rcases hs with rfl | rfl <;> omega
      obtain ⟨x,x1,x2⟩:=aeP h hs hi hK hm m1 hne;have:=lo x x1;simp only at m2;rcases hs with rfl | rfl <;> omega
  · refine ⟨(f.n e).1,fun m m1 m2 => ?_⟩
    refine Classical.byContradiction fun hne => ?_;obtain ⟨x,x1,x2⟩:=aeP h hs hi hK m2 m1 hne;exact (f.n e).2 x x1
  · obtain ⟨t,_⟩:=f.y e
    rcases t with ⟨j,hj,_,e1,_⟩ | ⟨q,q1,q2,_⟩
    · exact Or.inl ⟨_,List.getElem_mem hj,e1⟩
    · exact Or.inr ⟨q,by omega,q2⟩
end
variable [Inhabited WT]
variable {p c:Int} {core:List (List Sp)} {odd:List Gn}
theorem kL (h:SF p c core odd) (i:Int):Ev (fun k=>iP.f k p c core odd i) (mR p c core odd i):=by
  unfold iP.f;simp only [decide_eq_true_eq];by_cases g1:i < -1099511627776
  · have:mR p c core odd i=([],20):=by unfold mR;rw [if_neg (by unfold inR;omega)]
    rw [this];exact Ev.yes g1 (Ev.now _)
  refine Ev.no g1 ?_;by_cases g2:i>1099511627776
  · have:mR p c core odd i=([],20):=by unfold mR;rw [if_neg (by unfold inR;omega)]
    rw [this];exact Ev.yes g2 (Ev.now _)
  refine Ev.no g2 ?_;have hr:inR i:=by unfold inR;omega
  obtain ⟨q,q1,q2,q3,q4,q5⟩:=tQ h i (by omega);refine Ev.bind q1 ?_;have aa:=h.xX i;have hl:=SL.len (lo:=0) aa;have c3:0+(fs c core odd i).length≤8796093022208:=by omega
  unfold mR;rw [if_pos hr];simp only [c3,if_true];by_cases hz:fs c core odd i=[]
  · rw [if_pos hz]
    refine Ev.yes (by simp [hz]) ?_;rw [hz];exact Ev.now _
  rw [if_neg hz];have hlen:¬ ((fs c core odd i).length:Int)=0:=by
    intro e;exact hz (List.eq_nil_of_length_eq_zero (by omega))
  refine Ev.no hlen ?_;by_cases hq:q=0
  · have hm:nN (fb p c odd i) (fs c core odd i)=(fs c core odd i,0):=by rw [q2,hq,Int.zero_mul,abm aa]
    rw [hm];exact Ev.yes hq (Ev.now _)
  refine Ev.no hq ?_;have hp0:=h.hp0;have hp1:=h.hp1;have hpz:¬ p=0:=fun e=>hq (q3 (h.hz.2 e));have hpp:0<p:=by omega
  have d1:Int.tdiv 2199023255552 p=2199023255552 / p:=Int.tdiv_eq_ediv_of_nonneg (by omega);have d2:Int.tdiv (-2199023255552) p = -(2199023255552 / p):=by rw [Int.neg_tdiv,d1]
  have e1:2199023255552 / p*p≤2199023255552:=Int.ediv_mul_le _ hpz;have e2:2199023255552<(2199023255552 / p+1)*p:=Int.lt_ediv_add_one_mul_self _ hpp;have e3:=tF (a:=2199023255552) (b:=p) (by omega) hpp;have e4:0≤2199023255552 / p:=Int.ediv_nonneg (by omega) (by omega);have ab:=aa.ends hz;refine Ev.no hpz ?_;rw [d1,d2,jf (n:=2199023255552 / p) (by omega) (by omega),jf (n:=2199023255552 / p+1) (by omega) (by omega),jf (n := -(2199023255552 / p)) (by omega) (by omega),jf (n := -(2199023255552 / p) - 1) (by omega) (by omega)];have bad:∀ {n:Int},(2199023255552<n∨n < -2199023255552)→nN n (fs c core odd i)=([],20):=fun {n} hn=>by
    unfold nN;rw [if_neg];rw [aa.oK hz];omega
  by_cases k1:q>2199023255552 / p+1
  · rw [q2,bad (Or.inl ?_)]
    · exact Ev.yes k1 (Ev.now _)
    · have:(2199023255552 / p+1)*p≤q*p:=Int.mul_le_mul_of_nonneg_right (by omega) hp0
      omega
  refine Ev.no k1 (Ev.no hpz ?_);by_cases k2:q < -(2199023255552 / p) - 1
  · rw [q2,bad (Or.inr ?_)]
    · exact Ev.yes k2 (Ev.now _)
    · have:q*p≤(-(2199023255552 / p+1))*p:=Int.mul_le_mul_of_nonneg_right (by omega) hp0
      rw [Int.neg_mul] at this;omega
  refine Ev.no k2 ?_;have f1:q*p≤(2199023255552 / p+1)*p:=Int.mul_le_mul_of_nonneg_right (by omega) hp0;have f2:(-(2199023255552 / p+1))*p≤q*p:=Int.mul_le_mul_of_nonneg_right (by omega) hp0;rw [Int.neg_mul] at f2;have f3:(2199023255552 / p+1)*p=2199023255552 / p*p+p:=by rw [Int.add_mul,Int.one_mul]
  rw [q2,jf (n:=q*p) (by omega) (by omega)];exact Ev.bind (f:=fun _ a=>some (a.1,a.2)) (abl (fs c core odd i) (q*p) aa (by omega)) (Ev.now _)
theorem aek (h:SF p c core odd) {i s:Int} (hs:s=1∨s = -1) (hi:inR i) {β:Type}:∀ (d n:Nat),odd.length - n=d→n≤odd.length→∀ (b:Bool) (a:Int),Fnd s (T1 odd i s n) b a→∃ b' a',Fnd s (T1 odd i s odd.length) b' a'∧∀ (Y:Nat→Bool→Int→Option β) (r:β),Ev (fun k=>Y k b' a') r→Ev (fun k=>fJ.l0 (Y k) i s odd k b a (n:Int)) r:=by
  have hlo:=h.hlo;intro d;induction d with
  | zero =>
    intro n hd hn b a hF;have hnn:n=odd.length:=by omega
    subst hnn;refine ⟨b,a,hF,fun Y r hY => ?_⟩;have c1:¬ (odd.length:Int)<(odd.length:Int):=by omega
    refine Ev.step (fun k=>rfl) ?_;simp only [fJ.l0,fJ.l0T,decide_eq_true_eq,c1,if_false];exact Ev.shift hY
  | succ d ih =>
    intro n hd hn b a hF;have hlt:n<odd.length:=by omega
    have c1:(n:Int)<(odd.length:Int):=by omega
    have c2:(0:Int)≤(n:Int):=by omega
    have hrd:=rdG odd n hlt;have hw:wq ((n:Int)+1)=((n+1:Nat):Int):=by rw [jf (by omega) (by omega)];simp
    have hg:=h.hidx _ (List.getElem_mem hlt);have hi':=hi;unfold inR at hg hi';have w1:wq (odd[n].f0 - i)=odd[n].f0 - i:=jf (by omega) (by omega);have w2:wq ((odd[n].f0 - i)*s)=(odd[n].f0 - i)*s:=by rcases hs with rfl | rfl <;> exact jf (by omega) (by omega)
    by_cases g1:odd[n].f1≠[]
    case neg =>
      obtain ⟨b',a',F,E⟩:=ih (n+1) (by omega) (by omega) b a (hF.to (ahd hlt (fun x=>g1 x.1)));refine ⟨b',a',F,fun Y r hY=>Ev.step (fun k=>rfl) ?_⟩;simp only [fJ.l0,fJ.l0T,decide_eq_true_eq,c1,c2,if_true,hrd,hw,w1,w2];exact Ev.no (by simp at g1;simp [g1]) (E (fun k=>Y (k+1)) r (Ev.shift hY))
    have q1:(odd[n].f1.length:Int)>0:=by have:=List.length_pos_iff.2 g1;omega
    by_cases g2:0≤(odd[n].f0 - i)*s
    case neg =>
      obtain ⟨b',a',F,E⟩:=ih (n+1) (by omega) (by omega) b a (hF.to (ahd hlt (fun x=>g2 x.2)));refine ⟨b',a',F,fun Y r hY=>Ev.step (fun k=>rfl) ?_⟩;simp only [fJ.l0,fJ.l0T,decide_eq_true_eq,c1,c2,if_true,hrd,hw,w1,w2];exact Ev.yes q1 (Ev.no (by omega) (E (fun k=>Y (k+1)) r (Ev.shift hY)))
    cases b with
    | false =>
      obtain ⟨b',a',F,E⟩:=ih (n+1) (by omega) (by omega) true odd[n].f0 ((hF.put _).to (ac5 hlt g1 g2));refine ⟨b',a',F,fun Y r hY=>Ev.step (fun k=>rfl) ?_⟩;simp only [fJ.l0,fJ.l0T,decide_eq_true_eq,c1,c2,if_true,hrd,hw,w1,w2];exact Ev.yes q1 (Ev.yes g2 (Ev.yes rfl (E (fun k=>Y (k+1)) r (Ev.shift hY))))
    | true =>
      have ha:=aeQ h (hF.y rfl).1;unfold inR at ha;have w3:wq (odd[n].f0 - a)=odd[n].f0 - a:=jf (by omega) (by omega);have w4:wq ((odd[n].f0 - a)*s)=(odd[n].f0 - a)*s:=by rcases hs with rfl | rfl <;> exact jf (by omega) (by omega)
      by_cases g3:(odd[n].f0 - a)*s<0
      · obtain ⟨b',a',F,E⟩:=ih (n+1) (by omega) (by omega) true odd[n].f0 ((hF.less hs g3).to (ac5 hlt g1 g2))
        refine ⟨b',a',F,fun Y r hY=>Ev.step (fun k=>rfl) ?_⟩;simp only [fJ.l0,fJ.l0T,decide_eq_true_eq,c1,c2,if_true,hrd,hw,w1,w2,w3,w4];exact Ev.yes q1 (Ev.yes g2 (Ev.no (by simp) (Ev.yes g3 (E (fun k=>Y (k+1)) r (Ev.shift hY)))))
      · obtain ⟨b',a',F,E⟩:=ih (n+1) (by omega) (by omega) true a ((hF.keep g3).to (ac5 hlt g1 g2))
        refine ⟨b',a',F,fun Y r hY=>Ev.step (fun k=>rfl) ?_⟩;simp only [fJ.l0,fJ.l0T,decide_eq_true_eq,c1,c2,if_true,hrd,hw,w1,w2,w3,w4];exact Ev.yes q1 (Ev.yes g2 (Ev.no (by simp) (Ev.no g3 (E (fun k=>Y (k+1)) r (Ev.shift hY)))))
theorem ael (h:SF p c core odd) {i s:Int} (hs:s=1∨s = -1) (hi:inR i) {F:Nat} (ab:(F:Int)=c*((odd.length:Int)+1)+2) (hF1:F≤100000000):∀ (d n:Nat),F - n=d→n≤F→(∀ q:Nat,q<n→inR (i+(q:Int)*s))→∀ (b:Bool) (a:Int),Fnd s (T2 c core odd i s n) b a →
    ∃ r,Ev (fun k=>fJ.l1 (fun y9 ac=>some (ac,y9)) i s p c core odd k b a (n:Int)) r∧Nrs c core odd s i r:=by
  have hlo:=h.hlo;have hc0:=h.hc;have hl:=h.hl;have aa:∀ k,jK.f k p c core odd=some (F:Int):=fun k=>by
    unfold jK.f;have z1:wq ((odd.length:Int)+1)=(odd.length:Int)+1:=jf (by omega) (by omega);rw [z1,jf (n:=c*((odd.length:Int)+1)) (by omega) (by omega),jf (n:=c*((odd.length:Int)+1)+2) (by omega) (by omega),← ab]
  have hi':=hi;unfold inR at hi';intro d;induction d with
  | zero =>
    intro n hd hn hw b a hF;have hnn:n=F:=by omega
    subst hnn;refine ⟨(a,b),?_,aeS h hs hi (Or.inl ab) (by omega) hw hF⟩;have c1:¬ (n:Int)<(n:Int):=by omega
    refine Ev.step (fun k=>rfl) ?_;simp only [fJ.l1,fJ.l1T,aa,Option.bind_some,decide_eq_true_eq,c1,if_false];exact Ev.now _
  | succ d ih =>
    intro n hd hn hw b a hF;have c1:(n:Int)<(F:Int):=by omega
    have hw1:wq ((n:Int)+1)=((n+1:Nat):Int):=by rw [jf (by omega) (by omega)];simp
    have w1:wq ((n:Int)*s)=(n:Int)*s:=by rcases hs with rfl | rfl <;> exact jf (by omega) (by omega)
    have w2:wq (i+(n:Int)*s)=i+(n:Int)*s:=by rcases hs with rfl | rfl <;> exact jf (by omega) (by omega)
    by_cases hr:inR (i+(n:Int)*s)
    case neg =>
      refine ⟨(a,b),?_,aeS h hs hi (Or.inr hr) (by omega) hw hF⟩;refine Ev.step (fun k=>rfl) ?_;simp only [fJ.l1,fJ.l1T,aa,Option.bind_some,decide_eq_true_eq,c1,if_true,w1,w2];unfold inR at hr;by_cases g:i+(n:Int)*s < -1099511627776
      · exact Ev.yes g (Ev.now _)
      · exact Ev.no g (Ev.yes (by omega) (Ev.now _))
    have hr':=hr;unfold inR at hr';have hw':∀ q:Nat,q<n+1→inR (i+(q:Int)*s):=fun q hq=>by
      rcases Nat.lt_or_ge q n with g | g
      · exact hw q g
      · have:q=n:=by omega
        subst this;exact hr
    have n1:¬ i+(n:Int)*s < -1099511627776:=by omega
    have n2:¬ i+(n:Int)*s>1099511627776:=by omega
    have hhas:=zD h (i+(n:Int)*s) (by omega);by_cases g1:fs c core odd (i+(n:Int)*s)≠[]
    case neg =>
      obtain ⟨r,r1,r2⟩:=ih (n+1) (by omega) (by omega) hw' b a (hF.to (aic (Classical.byContradiction g1)));refine ⟨r,Ev.step (fun k=>rfl) ?_,r2⟩;simp only [fJ.l1,fJ.l1T,aa,Option.bind_some,decide_eq_true_eq,c1,if_true,w1,w2,n1,n2,if_false,hw1];exact Ev.bind hhas (Ev.no (by simpa using g1) r1)
    cases b with
    | false =>
      obtain ⟨r,r1,r2⟩:=ih (n+1) (by omega) (by omega) hw' true (i+(n:Int)*s) ((hF.put _).to (ac6 g1));refine ⟨r,Ev.step (fun k=>rfl) ?_,r2⟩;simp only [fJ.l1,fJ.l1T,aa,Option.bind_some,decide_eq_true_eq,c1,if_true,w1,w2,n1,n2,if_false,hw1];exact Ev.bind hhas (Ev.yes (by simpa using g1) (Ev.yes rfl r1))
    | true =>
      have ha:=aeR h hw (hF.y rfl).1;unfold inR at ha;have w3:wq (i+(n:Int)*s - a)=i+(n:Int)*s - a:=jf (by omega) (by omega);have w4:wq ((i+(n:Int)*s - a)*s)=(i+(n:Int)*s - a)*s:=by rcases hs with rfl | rfl <;> exact jf (by omega) (by omega)
      by_cases g3:(i+(n:Int)*s - a)*s<0
      · obtain ⟨r,r1,r2⟩:=ih (n+1) (by omega) (by omega) hw' true (i+(n:Int)*s) ((hF.less hs g3).to (ac6 g1))
        refine ⟨r,Ev.step (fun k=>rfl) ?_,r2⟩;simp only [fJ.l1,fJ.l1T,aa,Option.bind_some,decide_eq_true_eq,c1,if_true,w1,w2,n1,n2,if_false,hw1,w3,w4];exact Ev.bind hhas (Ev.yes (by simpa using g1) (Ev.no (by simp) (Ev.yes g3 r1)))
      · obtain ⟨r,r1,r2⟩:=ih (n+1) (by omega) (by omega) hw' true a ((hF.keep g3).to (ac6 g1))
        refine ⟨r,Ev.step (fun k=>rfl) ?_,r2⟩;simp only [fJ.l1,fJ.l1T,aa,Option.bind_some,decide_eq_true_eq,c1,if_true,w1,w2,n1,n2,if_false,hw1,w3,w4];exact Ev.bind hhas (Ev.yes (by simpa using g1) (Ev.no (by simp) (Ev.no g3 r1)))
theorem uT (h:SF p c core odd) {i s:Int} (hs:s=1∨s = -1) (hi:inR i):∃ r,Ev (fun k=>fJ.f k p c core odd i s) r∧Nrs c core odd s i r:=by
  have hc0:=h.hc;have hl:=h.hl;have hlo:=h.hlo;have hb:core.length*(odd.length+1)≤6000*6001:=Nat.mul_le_mul hl (by omega);obtain ⟨b,a,F,E⟩:=aek (β:=Int × Bool) h hs hi odd.length 0 (by omega) (by omega) false 0 ⟨fun e=>(by cases e),fun _=>⟨rfl,fun m=>af4⟩⟩;obtain ⟨r,r1,r2⟩:=ael h hs hi (F:=core.length*(odd.length+1)+2) (by rw [hc0];simp) (by omega) _ 0 rfl (by omega) (fun q hq=>by omega) b a (F.to (fun m=>⟨Or.inl,fun t=>by
    rcases t with t | ⟨q,q1,_⟩
    · exact t
    · omega⟩))
  refine ⟨r,?_,r2⟩;unfold fJ.f;exact E (fun k y1 y2=>fJ.l1 (fun y9 aa=>some (aa,y9)) i s p c core odd k y1 y2 0) r r1
theorem yC (h:SF p c core odd) (i:Int) (hi : -1099511627776≤i∧i<1099511627776):∃ r,Ev (fun k=>jv.f k p c core odd i) r∧Nrs c core odd 1 (i+1) r:=by
  obtain ⟨r,r1,r2⟩:=uT h (s:=1) (i:=i+1) (Or.inl rfl) (by unfold inR;omega);refine ⟨r,?_,r2⟩;unfold jv.f;simp only [decide_eq_true_eq];refine Ev.no (by omega) (Ev.no (by omega) ?_);rw [jf (n:=i+1) (by omega) (by omega)];exact Ev.bind (f:=fun _ a=>some (a.1,a.2)) r1 (Ev.now _)
theorem yD (h:SF p c core odd) (i:Int) (hi : -1099511627776<i∧i≤1099511627776):∃ r,Ev (fun k=>jy.f k p c core odd i) r∧Nrs c core odd (-1) (i - 1) r:=by
  obtain ⟨r,r1,r2⟩:=uT h (s := -1) (i:=i - 1) (Or.inr rfl) (by unfold inR;omega);refine ⟨r,?_,r2⟩;unfold jy.f;simp only [decide_eq_true_eq];refine Ev.no (by omega) (Ev.no (by omega) ?_);rw [jf (n:=i - 1) (by omega) (by omega)];exact Ev.bind (f:=fun _ a=>some (a.1,a.2)) r1 (Ev.now _)
end Go.Proofs.YtongeknogcboiaaGreat.Q
namespace Go.Proofs.YtongeknogcboiaaGreat.Q
set_option linter.unusedVariables false
set_option linter.unusedSimpArgs false
open Go.RowKit Go.Proofs.YtongeknogcboiaaGreatW.gq Go.Proofs.YtongeknogcboiaaGreatW.iR M R P
section
variable {p c:Int} {core:List (List Sp)} {odd:List Gn}
def Mt (p c:Int) (core:List (List Sp)) (odd:List Gn) (lo hi m:Int):Prop:=Ex p c core odd m∧∃ x,kE (gT p c core odd m) x=true∧lo≤x∧x≤hi
structure Acc (M T:Int→Prop) (l:List Int):Prop where
  up:Up l
  mem:∀ m∈l,M m
  all:∀ m,T m→M m→m∈l
theorem Acc.to {M T U:Int→Prop} {l:List Int} (a:Acc M T l) (h:∀ m,M m→U m→T m):Acc M U l:=⟨a.up,a.mem,fun m u k=>a.all m (h m k u) k⟩
theorem Acc.put {M T:Int→Prop} {l:List Int} (a:Acc M T l) {x:Int} (hx:M x):Acc M (fun m=>T m∨m=x) (ins l x):=⟨acp a.up x,fun m hm=>by
  rcases (vQ l x m).1 hm with h | rfl
  · exact a.mem m h
  · exact hx,fun m t k=>(vQ l x m).2 (t.imp (fun t=>a.all m t k) id)⟩
theorem Acc.skip {M T:Int→Prop} {l:List Int} (a:Acc M T l) {x:Int} (hx:¬ M x):Acc M (fun m=>T m∨m=x) l:=a.to fun m k u=>by
  rcases u with u | rfl
  · exact u
  · exact absurd k hx
theorem ac7 (h:FOK p c core odd) {lo hi:Int} {l:List Int} (hu:Up l) (hm:∀ m∈l,Mt p c core odd lo hi m):(l.length:Int)≤max 0 (hi - lo+1):=by
  have key:∀ m,Mt p c core odd lo hi m→gLo p c core odd m≤gHi p c core odd m∧lo≤gHi p c core odd m∧gLo p c core odd m≤hi∧lo≤hi:=fun m ⟨e,x,x1,x2,x3⟩=>by
    have:=o8 h.s e x1;omega
  have e:((l.map fun m=>max (gLo p c core odd m) lo)).Pairwise (· < ·):=by
    refine List.pairwise_map.2 (List.Pairwise.imp_of_mem (R:=fun a b=>a<b) ?_ hu);intro a b ha hb hab;have h1:=hm a ha;have h2:=hm b hb;have:=h.ord a b hab h1.1.r h2.1.r h1.1.n h2.1.n;have:=key a h1;have:=key b h2;omega
  have:=acH hi _ (lo - 1) e (fun x hx=>by
    obtain ⟨m,m1,rfl⟩:=List.mem_map.1 hx;have:=key m (hm m m1);omega)
  simp only [List.length_map] at this;omega
theorem aie {q c:Int} (hq : -2199023255560≤q∧q≤2199023255560) (hc:0≤c∧c≤6000) : -13194139533360000≤q*c∧q*c≤13194139533360000:=by
  have h1:q*c≤2199023255560*c:=Int.mul_le_mul_of_nonneg_right hq.2 hc.1;have h2 : -2199023255560*c≤q*c:=Int.mul_le_mul_of_nonneg_right hq.1 hc.1;omega
theorem wH (h:SF p c core odd) {lo hi m:Int} (ho:jU odd m=none) (t:Mt p c core odd lo hi m):0<c∧0<p∧∃ r:Nat,∃ hr:r<core.length,m % c=(r:Int)∧core[r]≠[]∧(lo - lY core[r]) / p≤m / c∧m / c≤(hi - lN core[r]) / p:=by
  obtain ⟨e,x,x1,x2,x3⟩:=t;have hf:fs c core odd m=iZ c core m:=by unfold fs;rw [ho]
  have hb:fb p c odd m=m / c*p:=by unfold fb;rw [ho]
  have hn:=e.n;rw [hf] at hn;obtain ⟨c0,p0,r,hr,r1,r2⟩:=nD h hn;have hl:=o8 h e x1;unfold gLo gHi at hl;rw [hf,hb,r2] at hl;refine ⟨c0,p0,r,hr,r1,by rw [← r2];exact hn,?_,?_⟩
  · exact Int.ediv_le_of_le_mul p0 (by omega)
  · exact (Int.le_ediv_iff_mul_le p0).2 (by omega)
end
variable [Inhabited WT]
variable {p c:Int} {core:List (List Sp)} {odd:List Gn}
theorem aaF (h:SF p c core odd) (hb:∀ m,(gT p c core odd m).length≤100000) (i lo hi:Int) (h0 : -1099511627776≤lo) (h1:lo≤hi) (h2:hi≤1099511627776):∃ b,Ev (fun k=>jA.f k p c core odd i lo hi) b∧(b=true↔Mt p c core odd lo hi i):=by
  unfold jA.f;have hsp:∀ s∈[(⟨lo,hi⟩:Sp)],-1099511627776≤s.f0∧s.f0≤s.f1∧s.f1≤1099511627776:=fun s hs=>by
    simp only [List.mem_singleton] at hs;subst hs;exact ⟨h0,h1,h2⟩
  rcases lq h i with ⟨e,e1,e2⟩ | ⟨e,e1⟩
  · obtain ⟨r,r1,r2,r3⟩:=qF 2 (-1099511627776) 1099511627776 (by omega) (by omega) (gT p c core odd i) [⟨lo,hi⟩] (fun s hs=>SL.ticks (h.ng e) hs) hsp (by have:=hb i;simp;omega)
    refine ⟨decide ((r.length:Int)>0),Ev.bind (kL h i) ?_,?_⟩
    · rw [e1]
      exact Ev.yes rfl (Ev.bind r1 (Ev.now _))
    · have r4:∀ x,kE r x=true↔kE (gT p c core odd i) x=true∧lo≤x∧x≤hi:=fun x=>by
        rw [r3 x];simp [kindOf,kE]
      rw [decide_eq_true_eq];constructor
      · intro hl
        have hne:r≠[]:=by intro q;rw [q] at hl;simp at hl
        obtain ⟨x,x1⟩:=qY r2 hne;exact ⟨e,x,(r4 x).1 x1⟩
      · rintro ⟨_,x,x1⟩
        have hx:=(r4 x).2 x1;cases r with
        | nil=>cases hx
        | cons a t=>simp
  · refine ⟨false,Ev.bind (kL h i) ?_,⟨fun q=>(by cases q),fun q=>absurd q.1 e⟩⟩
    rw [e1];by_cases q:(mR p c core odd i).2=0
    · obtain ⟨r,r1,r2,r3⟩:=qF 2 (-1099511627776) 1099511627776 (by omega) (by omega) [] [⟨lo,hi⟩] (fun s hs=>by cases hs) hsp (by simp)
      have hr:r=[]:=by
        cases r with
        | nil=>rfl
        | cons a t =>
          obtain ⟨x,x1⟩:=qY r2 (by simp);rw [r3 x] at x1;simp [kindOf,kE] at x1
      refine Ev.yes (by simpa using q) (Ev.bind r1 ?_);rw [hr];exact Ev.now _
    · exact Ev.no (by simpa using q) (Ev.now _)
theorem aem {β:Type} (h:FOK p c core odd) (hb:∀ m,(gT p c core odd m).length≤100000) {lo hi:Int} (h0 : -1000000≤lo) (h1:lo≤hi) (h2:hi≤1000000) (r high:Int) (hr:0≤r∧r≤6000) (hh : -2199023255555≤high∧high≤2199023255555) :
    ∀ (d:Nat) (q:Int),(high+2 - q).toNat=d → -2199023255555≤q→q≤2199023255557→∀ (l:List Int) (T:Int→Prop),Acc (Mt p c core odd lo hi) T l→∃ l',Acc (Mt p c core odd lo hi) (fun m=>T m∨∃ q',q≤q'∧q'≤high+1∧m=q'*c+r) l'∧∀ (Y:Nat→List Int→Option β) (v:β),Ev (fun k=>Y k l') v→Ev (fun k=>fI.l1 (Y k) r high p c core odd lo hi k l q) v:=by
  have hc0:=h.s.hc;have hl:=h.s.hl;have w0:wq (high+1)=high+1:=jf (by omega) (by omega);intro d;induction d with
  | zero =>
    intro q hd q0 q1 l T a;refine ⟨l,a.to (fun m _ u => ?_),fun Y v hY => ?_⟩
    · rcases u with u | ⟨q',a1,a2,_⟩
      · exact u
      · omega
    · have c1:¬ q≤high+1:=by omega
      refine Ev.step (fun k=>rfl) ?_;simp only [fI.l1,fI.l1T,w0,decide_eq_true_eq,c1,if_false];exact Ev.shift hY
  | succ d ih =>
    intro q hd q0 q1 l T a;have c1:q≤high+1:=by omega
    have mb:=aie (q:=q) (c:=c) (by omega) (by omega);have w1:wq (q*c)=q*c:=jf (by omega) (by omega);have w2:wq (q*c+r)=q*c+r:=jf (by omega) (by omega);have w3:wq (q+1)=q+1:=jf (by omega) (by omega);have fin:∀ m,Mt p c core odd lo hi m→(T m∨∃ q',q≤q'∧q'≤high+1∧m=q'*c+r)→((T m∨m=q*c+r)∨∃ q',q+1≤q'∧q'≤high+1∧m=q'*c+r):=fun m _ u=>by
      rcases u with u | ⟨q',a1,a2,a3⟩
      · exact Or.inl (Or.inl u)
      · rcases Int.lt_or_le q q' with g | g
        · exact Or.inr ⟨q',by omega,a2,a3⟩
        · have:q'=q:=by omega
          subst this;exact Or.inl (Or.inr a3)
    obtain ⟨b,b1,b2⟩:=aaF h.s hb (q*c+r) lo hi (by omega) h1 (by omega);cases b with
    | true =>
      have hM:=b2.1 rfl;obtain ⟨l',A,E⟩:=ih (q+1) (by omega) (by omega) (by omega) (ins l (q*c+r)) _ (a.put hM);refine ⟨l',A.to fin,fun Y v hY=>Ev.step (fun k=>rfl) ?_⟩;simp only [fI.l1,fI.l1T,w0,w1,w2,w3,decide_eq_true_eq,c1,if_true,aei];have hlen:=ac7 h a.up a.mem;exact Ev.bind b1 (Ev.yes rfl (Ev.bind (qE l (q*c+r) (by omega)) (E (fun k=>Y (k+1)) v (Ev.shift hY))))
    | false =>
      have hM:¬ Mt p c core odd lo hi (q*c+r):=fun e=>by have:=b2.2 e;cases this
      obtain ⟨l',A,E⟩:=ih (q+1) (by omega) (by omega) (by omega) l _ (a.skip hM);refine ⟨l',A.to fin,fun Y v hY=>Ev.step (fun k=>rfl) ?_⟩;simp only [fI.l1,fI.l1T,w0,w1,w2,w3,decide_eq_true_eq,c1,if_true,aei];exact Ev.bind b1 (Ev.no (by simp) (E (fun k=>Y (k+1)) v (Ev.shift hY)))
theorem aen {β:Type} (h:FOK p c core odd) (hb:∀ m,(gT p c core odd m).length≤100000) {lo hi:Int} (h0 : -1000000≤lo) (h1:lo≤hi) (h2:hi≤1000000) :
    ∀ (d n:Nat),core.length - n=d→n≤core.length→∀ (l:List Int),Acc (Mt p c core odd lo hi) (fun m=>jU odd m=none∧m % c<(n:Int)) l→∃ l',Acc (Mt p c core odd lo hi) (fun m=>jU odd m=none) l'∧∀ (Y:Nat→List Int→Option β) (v:β),Ev (fun k=>Y k l') v→Ev (fun k=>fI.l0 (Y k) p c core odd lo hi k l (n:Int)) v:=by
  have hc0:=h.s.hc;have hl:=h.s.hl;have hp1:=h.s.hp1;intro d;induction d with
  | zero =>
    intro n hd hn l a;refine ⟨l,a.to (fun m k u=>⟨u,?_⟩),fun Y v hY => ?_⟩
    · obtain ⟨c0,_⟩:=wH h.s u k
      have:=Int.emod_lt_of_pos m c0;omega
    · have c1:¬ (n:Int)<c:=by omega
      refine Ev.step (fun k=>rfl) ?_;simp only [fI.l0,fI.l0T,decide_eq_true_eq,c1,if_false];exact Ev.shift hY
  | succ d ih =>
    intro n hd hn l a;have hlt:n<core.length:=by omega
    have c1:(n:Int)<c:=by omega
    have c2:(0:Int)≤(n:Int):=by omega
    have c3:(n:Int)<(core.length:Int):=by omega
    have hrd:=rdL core n hlt;have hw:wq ((n:Int)+1)=((n+1:Nat):Int):=by rw [jf (by omega) (by omega)];simp
    by_cases hz:core[n]=[]
    · obtain ⟨l',A,E⟩:=ih (n+1) (by omega) (by omega) l (a.to (fun m k u=>⟨u.1,by
        obtain ⟨c0,_,r,hr,r1,r2,_⟩:=wH h.s u.1 k;have u2:=u.2;rcases Nat.lt_or_ge r n with g | g
        · omega
        · have:r=n:=by omega
          subst this;exact absurd hz r2⟩))
      refine ⟨l',A,fun Y v hY=>Ev.step (fun k=>rfl) ?_⟩;simp only [fI.l0,fI.l0T,decide_eq_true_eq,c1,c2,c3,if_true,hrd,hw];exact Ev.yes (by simp [hz]) (E (fun k=>Y (k+1)) v (Ev.shift hY))
    · have aa:=h.s.hcore _ (List.getElem_mem hlt)
      have ab:=aa.ends hz;obtain ⟨z1,z2,z3⟩:=yj core[n] hz (by have:=SL.len (lo:=0) aa;omega);obtain ⟨y1,y2⟩:=uP core[n] hz;have pp:0<p:=by
        have:=h.s.hp0;have:p≠0:=fun e=>by have:=h.s.hz.2 e;omega
        omega
      have z4:(core[n].length:Int) - 1<(core[n].length:Int):=by omega
      have y3:0<(core[n].length:Int):=by omega
      have nz:¬ (core[n].length:Int)=0:=by omega
      have s1:wq (lo - lY core[n])=lo - lY core[n]:=jf (by omega) (by omega);have s2:wq (hi - lN core[n])=hi - lN core[n]:=jf (by omega) (by omega);have bd:∀ {x:Int},-2199023255554≤x∧x≤2199023255554 → -2199023255554≤x / p∧x / p≤2199023255554:=fun {x} hx=>by
        constructor
        · refine (Int.le_ediv_iff_mul_le pp).2 ?_
          have:(-2199023255554:Int)*p ≤ -2199023255554*1:=Int.mul_le_mul_of_nonpos_left (by omega) (by omega);omega
        · rcases Int.lt_or_le x 0 with g | g
          · have:=Int.ediv_neg_of_neg_of_pos g pp;omega
          · have:=Int.ediv_le_self p g;omega
      have b1:=bd (x:=lo - lY core[n]) (by omega);have b2:=bd (x:=hi - lN core[n]) (by omega);obtain ⟨l1,A1,E1⟩:=aem (β:=β) h hb h0 h1 h2 (n:Int) ((hi - lN core[n]) / p) (by omega) (by omega) _ ((lo - lY core[n]) / p) rfl (by omega) (by omega) l _ a;obtain ⟨l',A,E⟩:=ih (n+1) (by omega) (by omega) l1 (A1.to (fun m k u=>by
        obtain ⟨c0,_,r,hr,r1,r2,r3,r4⟩:=wH h.s u.1 k;have u2:=u.2;rcases Nat.lt_or_ge r n with g | g
        · exact Or.inl ⟨u.1,by omega⟩
        · have:r=n:=by omega
          subst this;refine Or.inr ⟨m / c,r3,by omega,?_⟩;have:=Int.mul_ediv_add_emod m c;rw [Int.mul_comm] at this;omega))
      refine ⟨l',A,fun Y v hY=>Ev.step (fun k=>rfl) ?_⟩;simp only [fI.l0,fI.l0T,decide_eq_true_eq,c1,c2,c3,if_true,hrd,hw,z1,z2,z3,z4,y2,y3,nz,if_false,s1,s2,tO _ (lo - lY core[n]) p (by omega) (by omega),tO _ (hi - lN core[n]) p (by omega) (by omega),Option.bind_some];exact E1 (fun k y=>fI.l0 (Y (k+1)) p c core odd lo hi k y ((n+1:Nat):Int)) v (E (fun k=>Y (k+1)) v (Ev.shift hY))
theorem aeo (h:FOK p c core odd) (hb:∀ m,(gT p c core odd m).length≤100000) {lo hi:Int} (h0 : -1000000≤lo) (h1:lo≤hi) (h2:hi≤1000000) :
    ∀ (d n:Nat),odd.length - n=d→n≤odd.length→∀ (l:List Int),Acc (Mt p c core odd lo hi) (fun m=>jU odd m=none∨∃ j:Nat,∃ hj:j<odd.length,j<n∧odd[j].f0=m) l→∃ l',Acc (Mt p c core odd lo hi) (fun _=>True) l'∧Ev (fun k=>fI.l2 (fun y=>some y) p c core odd lo hi k l (n:Int)) l':=by
  have hlo:=h.s.hlo;intro d;induction d with
  | zero =>
    intro n hd hn l a;refine ⟨l,a.to (fun m _ _ => ?_),?_⟩
    · rcases acF (odd:=odd) (m:=m) with g | ⟨j,hj,g⟩
      · exact Or.inl g
      · exact Or.inr ⟨j,hj,by omega,g⟩
    · have c1:¬ (n:Int)<(odd.length:Int):=by omega
      refine Ev.step (fun k=>rfl) ?_;simp only [fI.l2,fI.l2T,decide_eq_true_eq,c1,if_false];exact Ev.now _
  | succ d ih =>
    intro n hd hn l a;have hlt:n<odd.length:=by omega
    have c1:(n:Int)<(odd.length:Int):=by omega
    have c2:(0:Int)≤(n:Int):=by omega
    have hrd:=rdG odd n hlt;have hw:wq ((n:Int)+1)=((n+1:Nat):Int):=by rw [jf (by omega) (by omega)];simp
    obtain ⟨b,b1,b2⟩:=aaF h.s hb odd[n].f0 lo hi (by omega) h1 (by omega);have fin:∀ m,Mt p c core odd lo hi m→(jU odd m=none∨∃ j:Nat,∃ hj:j<odd.length,j<n+1∧odd[j].f0=m)→((jU odd m=none∨∃ j:Nat,∃ hj:j<odd.length,j<n∧odd[j].f0=m)∨m=odd[n].f0):=fun m _ u=>by
      rcases u with u | ⟨j,hj,a1,a2⟩
      · exact Or.inl (Or.inl u)
      · rcases Nat.lt_or_ge j n with g | g
        · exact Or.inl (Or.inr ⟨j,hj,g,a2⟩)
        · have:j=n:=by omega
          subst this;exact Or.inr a2.symm
    cases b with
    | true =>
      have hM:=b2.1 rfl;obtain ⟨l',A,E⟩:=ih (n+1) (by omega) (by omega) (ins l odd[n].f0) ((a.put hM).to fin);refine ⟨l',A,Ev.step (fun k=>rfl) ?_⟩;simp only [fI.l2,fI.l2T,decide_eq_true_eq,c1,c2,if_true,hrd,hw,aei];have hlen:=ac7 h a.up a.mem;exact Ev.bind b1 (Ev.yes rfl (Ev.bind (qE l odd[n].f0 (by omega)) E))
    | false =>
      have hM:¬ Mt p c core odd lo hi odd[n].f0:=fun e=>by have:=b2.2 e;cases this
      obtain ⟨l',A,E⟩:=ih (n+1) (by omega) (by omega) l ((a.skip hM).to fin);refine ⟨l',A,Ev.step (fun k=>rfl) ?_⟩;simp only [fI.l2,fI.l2T,decide_eq_true_eq,c1,c2,if_true,hrd,hw,aei];exact Ev.bind b1 (Ev.no (by simp) E)
theorem abn (h:FOK p c core odd) (hb:∀ m,(gT p c core odd m).length≤100000) {lo hi:Int} (h0 : -1000000≤lo) (h1:lo≤hi) (h2:hi≤1000000):∃ l,Ev (fun k=>fI.f k p c core odd lo hi) l∧Up l∧∀ m,m∈l↔Mt p c core odd lo hi m:=by
  obtain ⟨l0,A0,E0⟩:=aen (β:=List Int) h hb h0 h1 h2 core.length 0 (by omega) (by omega) [] ⟨List.Pairwise.nil,fun m hm=>(by cases hm),fun m t k=>by
    obtain ⟨c0,_⟩:=wH h.s t.1 k;have:=Int.emod_nonneg m (show c≠0 by omega);have:=t.2;omega⟩
  obtain ⟨l,A,E⟩:=aeo h hb h0 h1 h2 odd.length 0 (by omega) (by omega) l0 (A0.to (fun m _ u=>by
    rcases u with u | ⟨j,_,g,_⟩
    · exact u
    · omega))
  refine ⟨l,?_,A.up,fun m=>⟨A.mem m,fun k=>A.all m trivial k⟩⟩;unfold fI.f;exact E0 (fun k y=>fI.l2 (fun y=>some y) p c core odd lo hi k y 0) l E
end Go.Proofs.YtongeknogcboiaaGreat.Q
namespace Go.Proofs.YtongeknogcboiaaGreat.Q
set_option linter.unusedVariables false
set_option linter.unusedSimpArgs false
open Go.RowKit Go.Proofs.YtongeknogcboiaaGreatW.gq Go.Proofs.YtongeknogcboiaaGreatW.iR M R P
section
variable {p c pa ca:Int} {core ka:List (List Sp)} {odd oa:List Gn}
theorem CvS.one (ha:SF pa ca ka oa) (h:FOK p c core odd) {i:Int} {r s:Int × Bool} (a:CvS pa ca ka oa p c core odd i r) (b:CvS pa ca ka oa p c core odd i s):r=s:=by
  obtain ⟨r1,r2⟩:=r;obtain ⟨s1,s2⟩:=s;have cross:∀ {x y:Int},CvS pa ca ka oa p c core odd i (x,true)→CvS pa ca ka oa p c core odd i (y,false)→False:=fun {x y} a b=>by
    obtain ⟨e,f,g⟩:=a.y rfl;exact (b.n rfl).2 e x f g
  cases r2 with
  | true =>
    cases s2 with
    | true =>
      obtain ⟨e,f,g⟩:=a.y rfl;obtain ⟨_,f',g'⟩:=b.y rfl;have hx:=qZ (ha.ng e) (mO e.n).1;rw [show r1=s1 from ac4 h f f' (g _ hx) (g' _ hx)]
    | false=>exact (cross a b).elim
  | false =>
    cases s2 with
    | true=>exact (cross b a).elim
    | false=>rw [show r1=0 from (a.n rfl).1,show s1=0 from (b.n rfl).1]
theorem BoS.one {so:Int→Bool} {r s:Int × Int × Bool} (a:BoS p c core odd so r) (b:BoS p c core odd so s):r=s:=by
  obtain ⟨r1,r2,r3⟩:=r;obtain ⟨s1,s2,s3⟩:=s;have cross:∀ {x y z w:Int},BoS p c core odd so (x,y,true)→BoS p c core odd so (z,w,false)→False:=fun {x y z w} a b=>by
    obtain ⟨⟨e,f⟩,_⟩:=a.y rfl;have:=(b.n rfl).2.2 _ e;simp only at f;rw [this] at f;cases f
  cases r3 with
  | true =>
    cases s3 with
    | true =>
      obtain ⟨⟨e1,e2⟩,⟨e3,e4⟩,e5⟩:=a.y rfl;obtain ⟨⟨f1,f2⟩,⟨f3,f4⟩,f5⟩:=b.y rfl;have g1:=e5 _ f1 f2;have g2:=e5 _ f3 f4;have g3:=f5 _ e1 e2;have g4:=f5 _ e3 e4;simp only at g1 g2 g3 g4;rw [show r1=s1 by omega,show r2=s2 by omega]
    | false=>exact (cross a b).elim
  | false =>
    cases s3 with
    | true=>exact (cross b a).elim
    | false =>
      obtain ⟨h1,h2,_⟩:=a.n rfl;obtain ⟨h3,h4,_⟩:=b.n rfl;simp only at h1 h2 h3 h4;rw [h1,h2,h3,h4]
theorem aif (h:SF p c core odd) {L:List Sp} (hL:SL (-1099511627776) 1099511627776 L) {m:Int} (e:Ex p c core odd m) (q:inS (gT p c core odd m) L=true):Mt p c core odd (lN L) (lY L) m:=by
  have hS:=h.ng e;have hx:=qZ hS (mO e.n).1;have:=hL.mY ((qb hS hL).1 q _ hx);exact ⟨e,_,hx,this.1,this.2⟩
theorem aii (h:SF p c core odd) {L:List Sp} (hL:SL (-1099511627776) 1099511627776 L) {m:Int} (e:Ex p c core odd m) (q:meS (gT p c core odd m) L=true):Mt p c core odd (lN L) (lY L) m:=by
  obtain ⟨x,x1,x2⟩:=(wG (h.ng e) hL).1 q;have:=hL.mY x2;exact ⟨e,_,x1,this.1,this.2⟩
end
variable [Inhabited WT]
variable {p c pa ca:Int} {core ka:List (List Sp)} {odd oa:List Gn}
theorem rH {a b:List Sp} (ha:SL (-1099511627776) 1099511627776 a) (hb:SL (-1099511627776) 1099511627776 b) (hl:a.length+b.length≤100000000):Ev (fun k=>iX.f k a b) (inS a b):=by
  obtain ⟨r,r1,r2,r3⟩:=qF 3 (-1099511627776) 1099511627776 (by omega) (by omega) a b (fun s hs=>SL.ticks ha hs) (fun s hs=>SL.ticks hb hs) hl;unfold iX.f;have:inS a b=decide ((r.length:Int)=0):=by
    rw [Bool.eq_iff_iff,qb ha hb,decide_eq_true_eq];constructor
    · intro q
      refine Classical.byContradiction fun hne => ?_;obtain ⟨x,x1⟩:=qY r2 (by intro e;rw [e] at hne;simp at hne);rw [r3 x] at x1;simp only [kindOf] at x1;have y1:kE a x=true:=by
        cases q1:kE a x with
        | true=>rfl
        | false=>rw [q1] at x1;simp at x1
      rw [q x y1] at x1;simp at x1
    · intro q x x1
      have:r=[]:=List.eq_nil_of_length_eq_zero (by omega);have y:=r3 x;rw [this] at y;simp only [kindOf,x1] at y;cases q1:kE b x with
      | true=>rfl
      | false=>rw [q1] at y;simp [kE] at y
  rw [this];exact Ev.bind r1 (Ev.now _)
theorem abo {a b:List Sp} (ha:SL (-1099511627776) 1099511627776 a) (hb:SL (-1099511627776) 1099511627776 b) (hl:a.length+b.length≤100000000):∃ r,Ev (fun k=>gN.f k 2 a b) r∧((r.length:Int)=0↔meS a b=false):=by
  obtain ⟨r,r1,r2,r3⟩:=qF 2 (-1099511627776) 1099511627776 (by omega) (by omega) a b (fun s hs=>SL.ticks ha hs) (fun s hs=>SL.ticks hb hs) hl;refine ⟨r,r1,?_⟩;have r4:∀ x,kE r x=true↔kE a x=true∧kE b x=true:=fun x=>by rw [r3 x];simp [kindOf]
  rw [← Bool.not_eq_true,wG ha hb];constructor
  · rintro q ⟨x,x1⟩
    have:r=[]:=List.eq_nil_of_length_eq_zero (by omega);have y:=(r4 x).2 x1;rw [this] at y;cases y
  · intro q
    refine Classical.byContradiction fun hne=>q ?_;obtain ⟨x,x1⟩:=qY r2 (by intro e;rw [e] at hne;simp at hne);exact ⟨x,(r4 x).1 x1⟩
theorem uU (h:FOK p c core odd) (hb:∀ m,(gT p c core odd m).length≤100000) {L:List Sp} (hL:SL (-1099511627776) 1099511627776 L) (hl:∀ s∈L,-1000000≤s.f0∧s.f1≤1000000):∃ l,Ev (fun k=>jk.f k p c core odd L) l∧Up l∧(l.length:Int)≤2000001∧∀ m,m∈l↔L≠[]∧Mt p c core odd (lN L) (lY L) m:=by
  unfold jk.f;by_cases hz:L=[]
  · refine ⟨[],?_,List.Pairwise.nil,by simp,fun m=>⟨fun q=>(by cases q),fun q=>absurd hz q.1⟩⟩
    subst hz;exact Ev.yes (by simp) (Ev.now _)
  · have ab:=SL.len (lo:=0) hL
    obtain ⟨z1,z2,z3⟩:=yj L hz (by omega);obtain ⟨y1,y2⟩:=uP L hz;have aa:=hL.ends hz;have b1 : -1000000≤lN L∧lY L≤1000000:=by
      constructor
      · cases L with
        | nil=>exact absurd rfl hz
        | cons s t=>exact (hl s (by simp)).1
      · rw [← z3]
        have e:(L.length:Int) - 1=((L.length - 1:Nat):Int):=by omega
        rw [e,ahj L _ (by omega)];exact (hl _ (List.getElem_mem _)).2
    obtain ⟨l,l1,l2,l3⟩:=abn h hb b1.1 aa.2.1 b1.2;refine ⟨l,?_,l2,by have:=ac7 h l2 (fun m hm=>(l3 m).1 hm);omega,fun m=>⟨fun q=>⟨hz,(l3 m).1 q⟩,fun q=>(l3 m).2 q.2⟩⟩;have n1:¬ (L.length:Int)=0:=by omega
    have n2:0<(L.length:Int):=by omega
    have n3:(L.length:Int) - 1<(L.length:Int):=by omega
    simp only [n1,n2,z1,z2,n3,z3,y2,decide_false,Bool.false_eq_true,if_true,if_false];exact Ev.bind (f:=fun _ a=>some a) l1 (Ev.now _)
theorem zF (ha:SF pa ca ka oa) (h:FOK p c core odd) (i:Int) (hl:(thV pa ca ka oa i).length≤100000) (hb:∀ m,(gT p c core odd m).length≤100000) (hn:∀ s∈thV pa ca ka oa i,-1000000≤s.f0∧s.f1≤1000000):∃ r,Ev (fun k=>gK.f k pa ca ka oa p c core odd i) r∧CvS pa ca ka oa p c core odd i r:=by
  unfold gK.f;have hL:=uS ha i;obtain ⟨at_,n1,n2,hal,n3⟩:=uU h hb hL hn;by_cases he:(mR pa ca ka oa i).2=0
  case neg =>
    refine ⟨(0,false),Ev.bind (kL ha i) (Ev.yes (by simpa using he) (Ev.now _)),fun q=>(by cases q),fun _=>⟨rfl,fun e => ?_⟩⟩;rw [ha.lu e] at he;exact absurd rfl he
  have key:∀ (rest pre:List Int),at_=pre++rest→(∀ m∈pre,inS (thV pa ca ka oa i) (gT p c core odd m)=false)→∃ r,Ev (fun k=>gK.l0 (fun y9=>some (y9,true)) (some (0,false)) (thV pa ca ka oa i) at_ p c core odd k (pre.length:Int)) r∧((r.2=true→r.1∈at_∧inS (thV pa ca ka oa i) (gT p c core odd r.1)=true)∧(r.2=false→r.1=0∧∀ m∈at_,inS (thV pa ca ka oa i) (gT p c core odd m)=false)):=by
    intro rest;induction rest with
    | nil =>
      intro pre hp hno;refine ⟨(0,false),?_,fun q=>(by cases q),fun _=>⟨rfl,by rw [hp,List.append_nil];exact hno⟩⟩;have c1:¬ (pre.length:Int)<(at_.length:Int):=by rw [hp];simp
      refine Ev.step (fun k=>rfl) ?_;simp only [gK.l0,gK.l0T,decide_eq_true_eq,c1,if_false];exact Ev.now _
    | cons m r ih =>
      intro pre hp hno;have hlen:pre.length+1≤at_.length:=by rw [hp];simp
      have hrd:gI at_ (pre.length:Int)=m:=by rw [hp];exact rdI _ _ _
      have c1:(pre.length:Int)<(at_.length:Int):=by omega
      have c2:(0:Int)≤(pre.length:Int):=by omega
      have hw:=nx c1 c2 (by omega);have hm:m∈at_:=by rw [hp];simp
      have hM:=((n3 m).1 hm).2.1;have wi:=rH hL (h.s.ng hM) (by have:=hb m;omega);by_cases q:inS (thV pa ca ka oa i) (gT p c core odd m)=true
      · refine ⟨(m,true),Ev.step (fun k=>rfl) ?_,fun _=>⟨hm,q⟩,fun q=>(by cases q)⟩
        simp only [gK.l0,gK.l0T,decide_eq_true_eq,c1,c2,hrd,hw,if_true];refine Ev.bind (kL h.s m) ?_;rw [h.s.lu hM];exact Ev.bind wi (Ev.yes q (Ev.now _))
      · have q':inS (thV pa ca ka oa i) (gT p c core odd m)=false:=by simpa using q
        obtain ⟨x,x1,x2⟩:=ih (pre++[m]) (by rw [hp];simp) (fun y hy=>by
          rcases List.mem_append.1 hy with g | g
          · exact hno y g
          · rw [List.mem_singleton.1 g];exact q')
        rw [← len1] at x1;refine ⟨x,Ev.step (fun k=>rfl) ?_,x2⟩;simp only [gK.l0,gK.l0T,decide_eq_true_eq,c1,c2,hrd,hw,if_true];refine Ev.bind (kL h.s m) ?_;rw [h.s.lu hM];exact Ev.bind wi (Ev.no q x1)
  obtain ⟨r,r1,r2,r3⟩:=key at_ [] rfl (fun m hm=>by cases hm);refine ⟨r,Ev.bind (kL ha i) (Ev.no (by simpa using he) (Ev.bind n1 r1)),fun q => ?_,fun q=>⟨(r3 q).1,fun e m hm hsub => ?_⟩⟩
  · obtain ⟨a1,a2⟩:=r2 q
    obtain ⟨b1,b2⟩:=(n3 r.1).1 a1;rcases lq ha i with ⟨e,e1,e2⟩ | ⟨e,e1⟩
    · have ev:thV pa ca ka oa i=gT pa ca ka oa i:=by unfold thV;rw [e1]
      rw [ev] at a2 hL;exact ⟨e,b2.1,(qb hL (h.s.ng b2.1)).1 a2⟩
    · exact absurd e1 b1
  · have ev:thV pa ca ka oa i=gT pa ca ka oa i:=by unfold thV;rw [ha.lu e]
    have hne:=(mO (p:=pa) e.n).1;have hx:=qZ (ha.ng e) hne;have hm2:m∈at_:=(n3 m).2 ⟨by rw [ev];exact hne,hm,_,hsub _ hx,by rw [ev];exact Int.le_refl _,by rw [ev];exact ((ha.ng e).ends hne).2.1⟩;have:=(r3 q).2 m hm2;rw [ev,(qb (ha.ng e) (h.s.ng hm)).2 hsub] at this;cases this
structure Tw (so:Int→Bool) (pre:List Int) (a b:Int) (ok:Bool):Prop where
  y:ok=true→(a∈pre∧so a=true)∧(b∈pre∧so b=true)∧∀ m∈pre,so m=true→a≤m∧m≤b
  n:ok=false→a=0∧b=0∧∀ m∈pre,so m=false
omit [Inhabited WT] in
theorem Tw.skip {so:Int→Bool} {pre:List Int} {a b:Int} {ok:Bool} (t:Tw so pre a b ok) {m:Int} (h:so m=false):Tw so (pre++[m]) a b ok:=by
  refine ⟨fun q => ?_,fun q => ?_⟩
  · obtain ⟨⟨a1,a2⟩,⟨b1,b2⟩,z⟩:=t.y q
    refine ⟨⟨by simp [a1],a2⟩,⟨by simp [b1],b2⟩,fun x hx e => ?_⟩;rcases List.mem_append.1 hx with g | g
    · exact z x g e
    · rw [List.mem_singleton.1 g,h] at e;cases e
  · obtain ⟨a1,b1,z⟩:=t.n q
    refine ⟨a1,b1,fun x hx => ?_⟩;rcases List.mem_append.1 hx with g | g
    · exact z x g
    · rw [List.mem_singleton.1 g];exact h
omit [Inhabited WT] in
theorem Tw.first {so:Int→Bool} {pre:List Int} {a b:Int} (t:Tw so pre a b false) {m:Int} (h:so m=true):Tw so (pre++[m]) m m true:=by
  refine ⟨fun _=>⟨⟨by simp,h⟩,⟨by simp,h⟩,fun x hx e => ?_⟩,fun q=>by cases q⟩;rcases List.mem_append.1 hx with g | g
  · rw [(t.n rfl).2.2 x g] at e;cases e
  · rw [List.mem_singleton.1 g];omega
omit [Inhabited WT] in
theorem Tw.more {so:Int→Bool} {pre:List Int} {a b:Int} (t:Tw so pre a b true) {m:Int} (h:so m=true) (hm:∀ x∈pre,x<m):Tw so (pre++[m]) a m true:=by
  obtain ⟨⟨a1,a2⟩,⟨b1,b2⟩,z⟩:=t.y rfl;refine ⟨fun _=>⟨⟨by simp [a1],a2⟩,⟨by simp,h⟩,fun x hx e => ?_⟩,fun q=>by cases q⟩;rcases List.mem_append.1 hx with g | g
  · have:=hm x g
    have:=z x g e;omega
  · rw [List.mem_singleton.1 g]
    have:=hm a a1;omega
def so2 (kind:Int) (g L:List Sp):Bool:=if kind=1 then inS g L else meS g L
theorem yE (kind:Int) (hk:kind=1∨kind=2) (ha:SF pa ca ka oa) (h:FOK p c core odd) (i:Int) (hl:(thV pa ca ka oa i).length≤100000) (hb:∀ m,(gT p c core odd m).length≤100000) (hn:∀ s∈thV pa ca ka oa i,-1000000≤s.f0∧s.f1≤1000000):∃ r,Ev (fun k=>gM.f k kind pa ca ka oa p c core odd i) r∧BoS p c core odd (fun m=>so2 kind (gT p c core odd m) (thV pa ca ka oa i)) r:=by
  unfold gM.f;have hL:=uS ha i;obtain ⟨at_,n1,n2,hal,n3⟩:=uU h hb hL hn;have big:∀ m,Ex p c core odd m→so2 kind (gT p c core odd m) (thV pa ca ka oa i)=true→Mt p c core odd (lN (thV pa ca ka oa i)) (lY (thV pa ca ka oa i)) m∧thV pa ca ka oa i≠[]:=fun m hm q=>by
    unfold so2 at q;split at q
    · refine ⟨aif h.s hL hm q,fun e => ?_⟩
      have:=(qb (h.s.ng hm) hL).1 q _ (qZ (h.s.ng hm) (mO (p:=p) hm.n).1);rw [e] at this;cases this
    · refine ⟨aii h.s hL hm q,fun e => ?_⟩
      obtain ⟨x,_,x2⟩:=(wG (h.s.ng hm) hL).1 q;rw [e] at x2;cases x2
  by_cases he:(mR pa ca ka oa i).2=0
  case neg =>
    refine ⟨(0,0,false),Ev.bind (kL ha i) (Ev.yes (by simpa using he) (Ev.now _)),fun q=>(by cases q),fun _=>⟨rfl,rfl,fun m hm => ?_⟩⟩;cases q:so2 kind (gT p c core odd m) (thV pa ca ka oa i) with
    | false=>rfl
    | true =>
      have:=(big m hm q).2;rcases lq ha i with ⟨e,e1,e2⟩ | ⟨e,e1⟩
      · rw [e1] at he;exact absurd rfl he
      · exact absurd e1 this
  have key:∀ (rest pre:List Int),at_=pre++rest→∀ (a b:Int) (ok:Bool),Tw (fun m=>so2 kind (gT p c core odd m) (thV pa ca ka oa i)) pre a b ok→∃ r:Int × Int × Bool,Ev (fun k=>gM.l0 (fun aa ab ac=>some (aa,ab,ac)) kind (thV pa ca ka oa i) at_ p c core odd k a b ok (pre.length:Int)) r∧Tw (fun m=>so2 kind (gT p c core odd m) (thV pa ca ka oa i)) at_ r.1 r.2.1 r.2.2:=by
    intro rest;induction rest with
    | nil =>
      intro pre hp a b ok t;refine ⟨(a,b,ok),?_,by rw [hp,List.append_nil];exact t⟩;have c1:¬ (pre.length:Int)<(at_.length:Int):=by rw [hp];simp
      refine Ev.step (fun k=>rfl) ?_;simp only [gM.l0,gM.l0T,decide_eq_true_eq,c1,if_false];exact Ev.now _
    | cons m r ih =>
      intro pre hp a b ok t;have hlen:pre.length+1≤at_.length:=by rw [hp];simp
      have hrd:gI at_ (pre.length:Int)=m:=by rw [hp];exact rdI _ _ _
      have c1:(pre.length:Int)<(at_.length:Int):=by omega
      have c2:(0:Int)≤(pre.length:Int):=by omega
      have hw:=nx c1 c2 (by omega);have hm:m∈at_:=by rw [hp];simp
      have hM:=((n3 m).1 hm).2.1;have hlt:∀ x∈pre,x<m:=fun x hx=>by
        have hu:Up at_:=n2;rw [hp] at hu;exact (List.pairwise_append.1 hu).2.2 x hx m (by simp)
      have wi:=rH (h.s.ng hM) hL (by have:=hb m;omega);obtain ⟨s,s1,s2⟩:=abo (h.s.ng hM) hL (by have:=hb m;omega);have hp2:at_=(pre++[m])++r:=by rw [hp];simp
      cases q:so2 kind (gT p c core odd m) (thV pa ca ka oa i) with
      | false =>
        obtain ⟨x,x1,x2⟩:=ih (pre++[m]) hp2 a b ok (t.skip q);rw [← len1] at x1;refine ⟨x,Ev.step (fun k=>rfl) ?_,x2⟩;rcases hk with rfl | rfl
        · simp only [gM.l0,gM.l0T,decide_eq_true_eq,c1,c2,hrd,hw,if_true]
          refine Ev.bind (kL h.s m) ?_;rw [h.s.lu hM];exact Ev.bind wi (Ev.yes (by simp only [so2] at q;simpa using q) x1)
        · simp only [gM.l0,gM.l0T,decide_eq_true_eq,c1,c2,hrd,hw,if_true]
          refine Ev.bind (kL h.s m) ?_;rw [h.s.lu hM];exact Ev.no (by decide) (Ev.bind s1 (Ev.yes (s2.2 (by simpa [so2] using q)) x1))
      | true =>
        cases ok with
        | false =>
          obtain ⟨x,x1,x2⟩:=ih (pre++[m]) hp2 m m true (t.first q);rw [← len1] at x1;refine ⟨x,Ev.step (fun k=>rfl) ?_,x2⟩;rcases hk with rfl | rfl
          · simp only [gM.l0,gM.l0T,decide_eq_true_eq,c1,c2,hrd,hw,if_true]
            refine Ev.bind (kL h.s m) ?_;rw [h.s.lu hM];exact Ev.bind wi (Ev.no (by simp only [so2] at q;simpa using q) (Ev.no (by decide) (Ev.yes rfl x1)))
          · simp only [gM.l0,gM.l0T,decide_eq_true_eq,c1,c2,hrd,hw,if_true]
            refine Ev.bind (kL h.s m) ?_;rw [h.s.lu hM];exact Ev.no (by decide) (Ev.bind s1 (Ev.no (fun e=>by have:=s2.1 e;simp [so2,this] at q) (Ev.yes rfl x1)))
        | true =>
          obtain ⟨x,x1,x2⟩:=ih (pre++[m]) hp2 a m true (t.more q hlt);rw [← len1] at x1;refine ⟨x,Ev.step (fun k=>rfl) ?_,x2⟩;rcases hk with rfl | rfl
          · simp only [gM.l0,gM.l0T,decide_eq_true_eq,c1,c2,hrd,hw,if_true]
            refine Ev.bind (kL h.s m) ?_;rw [h.s.lu hM];exact Ev.bind wi (Ev.no (by simp only [so2] at q;simpa using q) (Ev.no (by decide) (Ev.no (by simp) x1)))
          · simp only [gM.l0,gM.l0T,decide_eq_true_eq,c1,c2,hrd,hw,if_true]
            refine Ev.bind (kL h.s m) ?_;rw [h.s.lu hM];exact Ev.no (by decide) (Ev.bind s1 (Ev.no (fun e=>by have:=s2.1 e;simp [so2,this] at q) (Ev.no (by simp) x1)))
  obtain ⟨r,r1,r2⟩:=key at_ [] rfl 0 0 false ⟨fun q=>(by cases q),fun _=>⟨rfl,rfl,fun m hm=>(by cases hm)⟩⟩;refine ⟨r,Ev.bind (kL ha i) (Ev.no (by simpa using he) (Ev.bind n1 r1)),fun q => ?_,fun q => ?_⟩
  · obtain ⟨⟨a1,a2⟩,⟨b1,b2⟩,z⟩:=r2.y q
    exact ⟨⟨((n3 _).1 a1).2.1,a2⟩,⟨((n3 _).1 b1).2.1,b2⟩,fun m hm e=>z m ((n3 m).2 ⟨(big m hm e).2,(big m hm e).1⟩) e⟩
  · obtain ⟨a1,b1,z⟩:=r2.n q
    refine ⟨a1,b1,fun m hm => ?_⟩;cases e:so2 kind (gT p c core odd m) (thV pa ca ka oa i) with
    | false=>rfl
    | true =>
      have:=z m ((n3 m).2 ⟨(big m hm e).2,(big m hm e).1⟩);simp only [e] at this;cases this
theorem yF (h:SF p c core odd) (i:Int):∃ q,Ev (fun k=>jr.f k p c core odd i) q∧(q.2=true→Ex p c core odd i∧q.1.f0=gLo p c core odd i∧q.1.f1=gHi p c core odd i)∧(q.2=false→¬ Ex p c core odd i∧q.1=⟨0,0⟩):=by
  unfold jr.f;rcases lq h i with ⟨e,e1,e2⟩ | ⟨e,e1⟩
  · have hS:=h.ng e
    obtain ⟨z1,z2,z3⟩:=yj _ e2 (by have:=SL.len (lo:=0) hS;omega);obtain ⟨y1,y2⟩:=uP _ e2;obtain ⟨g1,g2,g3⟩:=mO (p:=p) e.n;have n1:¬ ((gT p c core odd i).length:Int)=0:=by omega
    have n2:0<((gT p c core odd i).length:Int):=by omega
    have n3:((gT p c core odd i).length:Int) - 1<((gT p c core odd i).length:Int):=by omega
    refine ⟨(⟨gLo p c core odd i,gHi p c core odd i⟩,true),Ev.bind (kL h i) ?_,fun _=>⟨e,rfl,rfl⟩,fun q=>(by cases q)⟩;rw [e1];simp only [decide_true,n1,n2,n3,z1,z2,z3,y2,g2,g3,Bool.not_true,Bool.false_eq_true,decide_false,if_true,if_false];exact Ev.now _
  · refine ⟨(⟨0,0⟩,false),Ev.bind (kL h i) ?_,fun q=>(by cases q),fun _=>⟨e,rfl⟩⟩
    rw [e1];by_cases q:(mR p c core odd i).2=0
    · exact Ev.no (by simpa using q) (Ev.yes (by simp) (Ev.now _))
    · exact Ev.yes (by simpa using q) (Ev.now _)
end Go.Proofs.YtongeknogcboiaaGreat.Q

/- Lemmas for laws of chapter 7: what the functions that they reach compute. No condition of its own. -/
import Derived.Test.YtcomnjodjijcmaaGreatYD16
import Derived.Test.YtcomnjodjijcmaaGreatYD12
namespace Go.Proofs.YtcomnjodjijcmaaGreat.Q
set_option linter.unusedVariables false
set_option linter.unusedSimpArgs false
open Go.RowKit Go.Proofs.YtcomnjodjijcmaaGreatW.dA Go.Proofs.YtcomnjodjijcmaaGreatW.eD M R P
section
theorem Ev.yes {α:Type} {c:Prop} [Decidable c] {g f:Nat→Option α} {r:α} (h:c) (k:Ev g r):Ev (fun n=>if c then g n else f n) r:=Ev.congr (fun n=>if_pos h) k
theorem Ev.no {α:Type} {c:Prop} [Decidable c] {g f:Nat→Option α} {r:α} (h:¬ c) (k:Ev f r):Ev (fun n=>if c then g n else f n) r:=Ev.congr (fun n=>if_neg h) k
theorem Ev.val {α:Type} {g:Option α} {r:α} (h:g=some r):Ev (fun _=>g) r:=⟨0,fun _ _=>h⟩
theorem rdS (pre r:List Sp) (s:Sp):gS (pre++s :: r) (pre.length:Int)=s:=by simp [gS]
theorem acz (l:List Sp) (j:Nat) (hj:j<l.length):gS l (j:Int)=l[j]:=by simp [gS,hj]
theorem rdG (l:List Gn) (j:Nat) (hj:j<l.length):gG l (j:Int)=l[j]:=by simp [gG,hj]
theorem rdL (l:List (List Sp)) (j:Nat) (hj:j<l.length):gL l (j:Int)=l[j]:=by simp [gL,hj]
theorem aix (l:List Gn) (x:Int) (hj:x.toNat<l.length):gG l x=l[x.toNat]:=by simp [gG,hj]
theorem aiy (l:List (List Sp)) (x:Int) (hj:x.toNat<l.length):gL l x=l[x.toNat]:=by simp [gL,hj]
theorem len1 {α:Type} (pre:List α) (s:α):((pre.length:Int)+1)=((pre++[s]).length:Int):=by simp
theorem ad3 (k:Nat) (a:Int):iA.f k a=some (okT a):=by
  unfold iA.f okT;by_cases h : -1099511627776≤a
  · simp [h]
  · simp [h]
theorem jU (k:Nat) (i:Int):gH.f k i=some (decide (inR i)):=by
  unfold gH.f inR;by_cases h : -1099511627776≤i
  · simp [h]
  · simp [h]
theorem abR {lo:Int} {s:Sp} {r:List Sp} (h0:lo≤s.f0) (h1:s.f0≤s.f1) (h2:s.f1≤1099511627776):slB lo (s :: r)=slB (s.f1+2) r:=by simp [slB,h0,h1,h2]
theorem ad4 {lo:Int} {s:Sp} {r:List Sp} (h:¬ (lo≤s.f0∧s.f0≤s.f1∧s.f1≤1099511627776)):slB lo (s :: r)=false:=by
  rw [Bool.eq_false_iff];intro e;rw [nT] at e;exact h ⟨e.1,e.2.1,e.2.2.1⟩
end
variable [Inhabited WT]
theorem nx {n:Nat} {i:Int} (h:i<n) (h0:0≤i) (hn:n≤9223372036854775807):wq (i+1)=i+1:=by rw [zP];exact nS (by omega) (by omega)
theorem iX {n:Int} (h0 : -9223372036854775808≤n) (h1:n≤9223372036854775807):wq n=n:=by rw [zP];exact nS h0 h1
theorem zu (l:List Sp) (hl:l.length≤9223372036854775807):Ev (fun k=>d9.f k l) (slB (-1099511627776) l):=by
  have key:∀ (rest pre:List Sp) (lo:Int),l=pre++rest→(pre=[]∧lo = -1099511627776∨∃ p q,pre=p++[q]∧lo=q.f1+2 ∧ -1099511627776≤q.f1∧q.f1≤1099511627776) →
      Ev (fun k=>d9.l0 (some false) (some true) l l (l.length:Int) k (pre.length:Int)) (slB lo rest):=by
    intro rest;induction rest with
    | nil =>
      intro pre lo hp hlo;refine Ev.step (f:=fun _=>some true) (fun k => ?_) (Ev.now _);have c1:¬ (pre.length:Int)<(l.length:Int):=by rw [hp];simp
      simp [d9.l0,d9.l0T,c1]
    | cons s r ih =>
      intro pre lo hp hlo;have hlen:pre.length+1≤l.length:=by rw [hp];simp
      have hrd:gS l (pre.length:Int)=s:=by rw [hp];exact rdS _ _ _
      have hlow : -1099511627776≤lo:=by rcases hlo with ⟨_,rfl⟩ | ⟨p,q,_,rfl,h,_⟩ <;> omega
      have c1:(pre.length:Int)<(l.length:Int):=by omega
      have c2:(0:Int)≤(pre.length:Int):=by omega
      have hw:=nx c1 c2 hl;refine Ev.step (fun k=>rfl) ?_;simp only [d9.l0,d9.l0T,decide_eq_true_eq,c1,c2,if_true,hrd,ad3,Option.bind_some,hw];by_cases t0:okT s.f0=true
      · by_cases t1:okT s.f1=true
        · simp only [t0,t1,Bool.not_true,Bool.false_eq_true,if_false]
          rw [uw] at t0 t1;by_cases t2:s.f0>s.f1
          · have:slB lo (s :: r)=false:=ad4 (by omega)
            rw [this];exact Ev.yes t2 (Ev.now _)
          · refine Ev.no t2 ?_
            rcases hlo with ⟨rfl,rfl⟩ | ⟨p,q,rfl,rfl,hq1,hq2⟩
            · refine Ev.no (by simp) ?_
              have hs:slB (-1099511627776) (s :: r)=slB (s.f1+2) r:=abR (by omega) (by omega) (by omega);rw [hs];exact ih [s] (s.f1+2) hp (.inr ⟨[],s,rfl,rfl,t1.1,t1.2⟩)
            · have hwp:wq (((p++[q]).length:Int) - 1)=(p.length:Int):=by rw [iX (by omega) (by omega)];simp
              have hrq:gS l (p.length:Int)=q:=by rw [hp];simp [gS]
              have hw2:wq (q.f1+2)=q.f1+2:=iX (by omega) (by omega);have c3:(p.length:Int)<(l.length:Int):=by simp at hlen;omega
              simp only [hwp,hrq,hw2,c3,if_true];refine Ev.yes (by simp) (Ev.yes (by omega) ?_);by_cases t3:s.f0<q.f1+2
              · have aa:slB (q.f1+2) (s :: r)=false:=ad4 (by omega)
                rw [aa];exact Ev.yes t3 (Ev.now _)
              · have hs:slB (q.f1+2) (s :: r)=slB (s.f1+2) r:=abR (by omega) (by omega) (by omega)
                rw [hs];refine Ev.no t3 ?_;rw [len1 _ s];exact ih (p++[q]++[s]) (s.f1+2) (by rw [hp];simp) (.inr ⟨p++[q],s,rfl,rfl,t1.1,t1.2⟩)
        · have e2:slB lo (s :: r)=false:=by
            rw [Bool.eq_false_iff];intro h;rw [nT] at h;obtain ⟨h1,h2,h3,_⟩:=h;exact t1 (uw.2 ⟨by omega,h3⟩)
          simp only [t0,t1,Bool.not_true,Bool.not_false,Bool.false_eq_true,if_false,if_true,e2];exact Ev.now _
      · have e2:slB lo (s :: r)=false:=by
          rw [Bool.eq_false_iff];intro h;rw [nT] at h;obtain ⟨h1,h2,h3,_⟩:=h;exact t0 (uw.2 ⟨by omega,by omega⟩)
        simp only [t0,Bool.not_false,if_true,e2];exact Ev.now _
  exact key l [] (-1099511627776) rfl (.inl ⟨rfl,rfl⟩)
theorem qo (k:Nat) (a n:Int) (h1 : -9223372036854775808≤a+n) (h2:a+n≤9223372036854775807):jo.f k a n=some (a+n,0):=by
  unfold jo.f;rw [iX h1 h2];have e:((decide ((a+n)>a))==(decide (n>0)))=true:=by
    by_cases h:n>0
    · have:a<a+n:=by omega
      simp [h,this]
    · have:a+n≤a:=by omega
      simp [h,this]
  rw [e];rfl
theorem add_not (k:Nat) (a n:Int) (ha : -1099511627776≤a∧a≤1099511627776) (hn : -9223372036854775808≤n∧n≤9223372036854775807) (h:¬ (-9223372036854775808≤a+n∧a+n≤9223372036854775807)):jo.f k a n=some (0,10):=by
  unfold jo.f;have e:((decide (wq (a+n)>a))==(decide (n>0)))=false:=by
    rw [zP];by_cases g:n>0
    · have:¬ wrap64 (a+n)>a:=by unfold wrap64;omega
      simp [g,this]
    · have:wrap64 (a+n)>a:=by unfold wrap64;omega
      simp [g,this]
  have n0:decide (n=0)=false:=by simp;omega
  rw [e,n0];rfl
theorem abS (l:List Sp) (n:Int) (hs:SL (-1099511627776) 1099511627776 l) (hn : -9223372036854775808≤n∧n≤9223372036854775807):Ev (fun k=>eG.f k l n) (mK n l):=by
  have hl:l.length≤2199023255553:=by have:=SL.len (lo:=0) hs;omega
  have key:∀ (rest pre:List Sp),l=pre++rest→pre.all (okM n)=true→Ev (fun k=>eG.l0 (fun _=>some ([],20)) (fun y=>some (y,0)) n l (l.length:Int) k (pre.map (fG n)) (pre.length:Int)) (mK n l):=by
    intro rest;induction rest with
    | nil =>
      intro pre hp hok;have e:l=pre:=by rw [hp];simp
      have c1:¬ (pre.length:Int)<(l.length:Int):=by rw [hp];simp
      refine Ev.step (f:=fun _=>some (pre.map (fG n),0)) (fun k => ?_) ?_
      · simp [eG.l0,eG.l0T,c1]
      · rw [e];unfold mK;rw [if_pos hok];exact Ev.now _
    | cons s r ih =>
      intro pre hp hok;have hlen:pre.length+1≤l.length:=by rw [hp];simp
      have hrd:gS l (pre.length:Int)=s:=by rw [hp];exact rdS _ _ _
      have c1:(pre.length:Int)<(l.length:Int):=by omega
      have c2:(0:Int)≤(pre.length:Int):=by omega
      have hw:=nx c1 c2 (by omega);have c3:(pre.map (fG n)).length+1≤8796093022208:=by rw [List.length_map];omega
      have ht:=SL.ticks hs (s:=s) (by rw [hp];simp);have bad:okM n s=false→mK n l=([],20):=fun h=>by
        unfold mK;rw [if_neg (by rw [hp,List.all_append,List.all_cons,h];simp)]
      refine Ev.step (fun k=>rfl) ?_;simp only [eG.l0,eG.l0T,decide_eq_true_eq,c1,c2,c3,if_true,hrd,ad3,hw];by_cases g0 : -9223372036854775808≤s.f0+n∧s.f0+n≤9223372036854775807
      · by_cases g1 : -9223372036854775808≤s.f1+n∧s.f1+n≤9223372036854775807
        · simp only [qo _ _ _ g0.1 g0.2,qo _ _ _ g1.1 g1.2,Option.bind_some]
          by_cases t0:okT (s.f0+n)=true
          · by_cases t1:okT (s.f1+n)=true
            · have:=ih (pre++[s]) (by rw [hp];simp) (by rw [List.all_append,hok];simp [okM,t0,t1])
              simp only [t0,t1,decide_true,Bool.not_true,Bool.false_eq_true,if_false];rw [List.map_append] at this;rw [len1 _ s];exact this
            · rw [bad (by simp [okM,t1])]
              simp only [t0,t1,decide_true,Bool.not_true,Bool.not_false,Bool.false_eq_true,if_false,if_true];exact Ev.now _
          · rw [bad (by simp [okM,t0])]
            simp only [t0,decide_true,Bool.not_true,Bool.not_false,Bool.false_eq_true,if_false,if_true];exact Ev.now _
        · have:okT (s.f1+n)=false:=by unfold okT;simp;omega
          rw [bad (by simp [okM,this])];simp only [qo _ _ _ g0.1 g0.2,add_not _ _ _ (show -1099511627776≤s.f1∧s.f1≤1099511627776 by omega) hn g1,Option.bind_some];exact Ev.now _
      · have:okT (s.f0+n)=false:=by unfold okT;simp;omega
        rw [bad (by simp [okM,this])];by_cases g1 : -9223372036854775808≤s.f1+n∧s.f1+n≤9223372036854775807
        · simp only [add_not _ _ _ (show -1099511627776≤s.f0∧s.f0≤1099511627776 by omega) hn g0,qo _ _ _ g1.1 g1.2,Option.bind_some]
          exact Ev.now _
        · simp only [add_not _ _ _ (show -1099511627776≤s.f0∧s.f0≤1099511627776 by omega) hn g0,add_not _ _ _ (show -1099511627776≤s.f1∧s.f1≤1099511627776 by omega) hn g1,Option.bind_some]
          exact Ev.now _
  exact key l [] rfl rfl
theorem abT (p:List Sp) (z:Sp) (h:(p++[z]).length≤4611686018427387904):wq (((p++[z]).length:Int) - 1)=(p.length:Int)∧gS (p++[z]) (p.length:Int)=z:=by
  refine ⟨?_,rdS p [] z⟩;rw [iX (by omega) (by omega)];simp
theorem ad5 (k:Nat) (l:List Sp) (h:l.length≤4611686018427387904):iE.f k l=some (⟨(rY l).1,(rY l).2.1⟩,(rY l).2.2):=by
  rcases List.eq_nil_or_concat l with rfl | ⟨p,z,rfl⟩
  · simp [iE.f,rY]
  · have e:p.concat z=p++[z]:=by simp
    rw [e] at h ⊢;obtain ⟨w,r⟩:=abT p z h;have c0:¬ ((p++[z]).length:Int)=0:=by simp only [List.length_append,List.length_singleton];omega
    have c1:(0:Int)<((p++[z]).length:Int):=by omega
    have c2:(p.length:Int)<((p++[z]).length:Int):=by simp only [List.length_append,List.length_singleton];omega
    have c3:(0:Int)≤(p.length:Int):=by omega
    have hg:(p++[z]).getLast? = some z:=by simp
    simp only [iE.f,decide_eq_true_eq,c0,c1,w,c2,c3,r,if_true,if_false];unfold rY;rw [hg];cases p <;> simp [gS]
theorem abU (k:Nat) (a b:List Sp) (h:a.length≤4611686018427387904):fF.f k a b=some (jE a b):=by
  rcases List.eq_nil_or_concat a with rfl | ⟨p,z,rfl⟩
  · simp [fF.f,jE]
  · have e:p.concat z=p++[z]:=by simp
    rw [e] at h ⊢;obtain ⟨w,r⟩:=abT p z h;have c0:¬ ((p++[z]).length:Int)=0:=by simp only [List.length_append,List.length_singleton];omega
    have c2:(p.length:Int)<((p++[z]).length:Int):=by simp only [List.length_append,List.length_singleton];omega
    have c3:(0:Int)≤(p.length:Int):=by omega
    simp only [fF.f,decide_eq_true_eq,c0,w,c2,c3,r,if_true,if_false];cases b with
    | nil=>simp [jE]
    | cons s q =>
      have:¬ (((s :: q).length:Int)=0):=by simp;omega
      have c1:(0:Int)<((s :: q).length:Int):=by simp
      rw [if_neg this,if_pos c1];simp [jE,gS]
end Go.Proofs.YtcomnjodjijcmaaGreat.Q
namespace Go.Proofs.YtcomnjodjijcmaaGreat.Q
set_option linter.unusedVariables false
set_option linter.unusedSimpArgs false
open Go.RowKit Go.Proofs.YtcomnjodjijcmaaGreatW.dA Go.Proofs.YtcomnjodjijcmaaGreatW.eD M R P
section
variable {p c:Int} {core:List (List Sp)} {odd:List Gn}
theorem ahN (k:Nat) (a b:Int):cmp_Compare_int.f k a b=some (if a<b then -1 else if a>b then 1 else 0):=by
  unfold cmp_Compare_int.f;by_cases h1:a<b
  · simp [cmp_isNaN_int.f,h1]
  · by_cases h2:a>b
    · simp [cmp_isNaN_int.f,h1,h2]
    · simp [cmp_isNaN_int.f,h1,h2]
theorem Ev.shift {α:Type} {g:Nat→Option α} {r:α} (h:Ev g r):Ev (fun k=>g (k+1)) r:=let ⟨K,h⟩:=h;⟨K,fun k hk=>h (k+1) (by omega)⟩
theorem abV {a b:Int} (ha : -4611686018427387904≤a∧a≤4611686018427387904) (hb:0<b) : -4611686018427387904≤a / b∧a / b≤4611686018427387904:=by
  constructor
  · refine (Int.le_ediv_iff_mul_le hb).2 ?_
    have:(-4611686018427387904:Int)*b ≤ -4611686018427387904*1:=Int.mul_le_mul_of_nonpos_left (by omega) (by omega);omega
  · rcases Int.lt_or_le a 0 with h | h
    · have:=Int.ediv_neg_of_neg_of_pos h hb;omega
    · have:=Int.ediv_le_self b h;omega
theorem uH (x:Int) (h0:0≤x) (h1:x<18446744073709551616):IntKind.wrap .u64 (BitVec.ofInt 64 x &&& BitVec.ofInt 64 4294967295).toNat=x % 4294967296:=ae4 x h0 h1
end
section
variable {p c:Int} {core:List (List Sp)} {odd:List Gn}
theorem abW (k:Nat) (a:Int) (l:List Sp) (b:Int):iY.f k a l b=some (if a<b then -1 else if a>b then 1 else 0):=by
  unfold iY.f;rw [ahN];rfl
end
variable [Inhabited WT]
variable {p c:Int} {core:List (List Sp)} {odd:List Gn}
theorem ad2 (lo hi:Nat) (h:hi≤4611686018427387903) (hl:lo≤hi):wq (Int.fdiv (wC .u64 (wq ((lo:Int)+(hi:Int)))) 2)=(((lo+hi) / 2:Nat):Int):=by
  rw [iX (n:=(lo:Int)+hi) (by omega) (by omega),aaU];have:IntKind.u64.wrap ((lo:Int)+hi)=(lo:Int)+hi:=by
    simp only [IntKind.wrap,IntKind.bits,IntKind.signed];simp;omega
  rw [this,Int.fdiv_eq_ediv_of_nonneg _ (by omega),iX (by omega) (by omega)];omega
theorem uI (h:SF p c core odd) (i:Int):∃ r,Ev (fun k=>eZ.f k p c core odd i) r∧agi odd i r:=by
  have hn:odd.length≤6000:=h.hlo;simp only [eZ.f,abW,Option.bind_some,decide_eq_true_eq];have key:∀ (d lo hi:Nat),hi - lo=d→lo≤hi→hi≤odd.length→(∀ j (hj:j<odd.length),j<lo→odd[j].f0<i)→(∀ j (hj:j<odd.length),hi≤j→i≤odd[j].f0) →
      ∃ r,Ev (fun k=>eZ.l0 (fun y=>if y<(odd.length:Int) then if 0≤y then if y<(odd.length:Int) then some (y,decide ((if (gG odd y).f0<i then (-1:Int) else if (gG odd y).f0>i then 1 else 0)=0)) else none else none else some (y,false)) odd i k (lo:Int) (hi:Int)) r∧agi odd i r:=by
    intro d;induction d using Nat.strongRecOn with
    | ind d ih =>
      intro lo hi hd hle hhn hlow hhigh;by_cases hlt:lo<hi
      · have c1:(lo:Int)<(hi:Int):=by omega
        have hm:=ad2 lo hi (by omega) hle;have hmid:(lo+hi) / 2<odd.length:=by omega
        have hrd:=rdG odd ((lo+hi) / 2) hmid;have c2:(0:Int)≤(((lo+hi) / 2:Nat):Int):=by omega
        have c3:(((lo+hi) / 2:Nat):Int)<(odd.length:Int):=by omega
        have hw:wq ((((lo+hi) / 2:Nat):Int)+1)=(((lo+hi) / 2+1:Nat):Int):=by rw [iX (by omega) (by omega)];simp
        by_cases t:odd[(lo+hi) / 2].f0<i
        · obtain ⟨r,r1,r2⟩:=ih (hi - ((lo+hi) / 2+1)) (by omega) ((lo+hi) / 2+1) hi rfl (by omega) hhn (fun j hj h'=>by
            rcases Nat.lt_or_ge j ((lo+hi) / 2) with g | g
            · have:=xS h.hup hmid g;omega
            · have:j=(lo+hi) / 2:=by omega
              subst this;exact t) hhigh
          refine ⟨r,Ev.step (fun k=>rfl) ?_,r2⟩;simp only [eZ.l0,eZ.l0T,decide_eq_true_eq,c1,hm,c2,c3,hrd,abW,t,Option.bind_some,hw,if_true];exact Ev.yes (by omega) r1
        · obtain ⟨r,r1,r2⟩:=ih ((lo+hi) / 2 - lo) (by omega) lo ((lo+hi) / 2) rfl (by omega) (by omega) hlow (fun j hj h'=>by
            rcases Nat.lt_or_ge ((lo+hi) / 2) j with g | g
            · have:=xS h.hup hj g;omega
            · have:j=(lo+hi) / 2:=by omega
              subst this;omega)
          refine ⟨r,Ev.step (fun k=>rfl) ?_,r2⟩;have hneg:¬ (if odd[(lo+hi) / 2].f0<i then (-1:Int) else if odd[(lo+hi) / 2].f0>i then 1 else 0)<0:=by rw [if_neg t];split <;> omega
          simp only [eZ.l0,eZ.l0T,decide_eq_true_eq,c1,hm,c2,c3,hrd,abW,Option.bind_some,hneg,if_true,if_false];exact r1
      · have he:lo=hi:=by omega
        subst he;have c1:¬ (lo:Int)<(lo:Int):=by omega
        by_cases hlast:lo<odd.length
        · have hx:=hhigh lo hlast (by omega)
          refine ⟨((lo:Int),decide (odd[lo].f0=i)),Ev.step (f:=fun _=>some ((lo:Int),decide (odd[lo].f0=i))) (fun k => ?_) (Ev.now _),?_⟩
          · have c2:(lo:Int)<(odd.length:Int):=by omega
            have c3:(0:Int)≤(lo:Int):=by omega
            have c4:¬ odd[lo].f0<i:=by omega
            simp only [eZ.l0,eZ.l0T,decide_eq_true_eq,c1,c2,c3,rdG odd lo hlast,c4,if_true,if_false];by_cases g:odd[lo].f0>i
            · have:¬ odd[lo].f0=i:=by omega
              simp [g,this]
            · have:odd[lo].f0=i:=by omega
              simp [g,this]
          · refine ⟨by omega,by show (lo:Int)≤_;omega,fun j hj hl=>hlow j hj (by simp only at hl;omega),fun j hj hl=>hhigh j hj (by simp only at hl;omega),fun e=>⟨by simpa using hlast,by simpa using e⟩,fun e => ?_⟩
            rw [jv];intro g hg;obtain ⟨j,hj,rfl⟩:=List.getElem_of_mem hg;have e':¬ odd[lo].f0=i:=by simpa using e
            rcases Nat.lt_or_ge j lo with g | g
            · have:=hlow j hj g;omega
            · rcases Nat.lt_or_ge lo j with g2 | g2
              · have:=xS h.hup hj g2;omega
              · have:j=lo:=by omega
                subst this;exact e'
        · refine ⟨((lo:Int),false),Ev.step (f:=fun _=>some ((lo:Int),false)) (fun k => ?_) (Ev.now _),?_⟩
          · have c2:¬ (lo:Int)<(odd.length:Int):=by omega
            simp only [eZ.l0,eZ.l0T,decide_eq_true_eq,c1,c2,if_false]
          · refine ⟨by omega,by show (lo:Int)≤_;omega,fun j hj hl=>hlow j hj (by simp only at hl;omega),fun j hj hl=>hhigh j hj (by simp only at hl;omega),(fun e=>by cases e),fun e => ?_⟩
            rw [jv];intro g hg;obtain ⟨j,hj,rfl⟩:=List.getElem_of_mem hg;have:=hlow j hj (by omega);omega
  exact key _ 0 odd.length rfl (by omega) (Nat.le_refl _) (fun j hj h=>by omega) (fun j hj h=>by omega)
theorem qp (a b:Int) (ha : -4611686018427387904≤a∧a≤4611686018427387904) (hb:0<b∧b≤4611686018427387904):Ev (fun k=>gK.f k a b) (a / b,a % b,0):=by
  have h1:=Int.emod_nonneg a (show b≠0 by omega);have h2:=Int.emod_lt_of_pos a hb.1;have h3:=Int.mul_ediv_add_emod a b;have hq:=abV ha hb.1;have b0:¬ b=0:=by omega
  have b1:¬ b = -1:=by omega
  have bn:decide (b<0)=false:=by simp;omega
  refine Ev.congr (f:=fun _=>some (a / b,a % b,0)) (fun k => ?_) (Ev.now _);unfold gK.f;rw [if_neg (by simpa using b0),if_neg (by simpa using b1),if_neg b0,if_neg b0];simp only [bn,Bool.not_eq_true',decide_eq_false_iff_not];have ht:=Int.tmod_add_mul_tdiv a b;rcases Int.lt_or_le a 0 with hneg | hpos
  · by_cases hz:Int.tmod a b=0
    · have hdvd:b ∣ a:=Int.dvd_of_tmod_eq_zero hz
      have e1:a % b=0:=Int.emod_eq_zero_of_dvd hdvd;have e2:Int.tdiv a b=a / b:=by
        have:b*Int.tdiv a b=b*(a / b):=by rw [hz] at ht;omega
        exact Int.eq_of_mul_eq_mul_left (by omega) this
      simp only [hz,e2,e1,not_true,if_false];rw [iX (n:=a / b) (by omega) (by omega)]
    · have t1:Int.tmod a b≤0:=(by have h0:=Int.tmod_nonneg b (show 0 ≤ -a by omega);rw [Int.neg_tmod] at h0;omega)
      have t2 : -b<Int.tmod a b:=by
        have:=Int.lt_tmod_of_pos a hb.1;omega
      have e2:Int.tdiv a b=a / b+1:=by
        have k1:b*(a / b - Int.tdiv a b)=Int.tmod a b - a % b:=by rw [Int.mul_sub];omega
        have k2:a / b - Int.tdiv a b<0:=by
          rcases Int.lt_or_le (a / b - Int.tdiv a b) 0 with g | g
          · exact g
          · have:0≤b*(a / b - Int.tdiv a b):=Int.mul_nonneg (by omega) g
            omega
        have k3 : -2<a / b - Int.tdiv a b:=by
          rcases Int.lt_or_le (-2) (a / b - Int.tdiv a b) with g | g
          · exact g
          · have:b*(a / b - Int.tdiv a b)≤b*(-2):=Int.mul_le_mul_of_nonneg_left g (by omega)
            omega
        omega
      have e1:Int.tmod a b+b=a % b:=by
        have:b*Int.tdiv a b=b*(a / b)+b:=by rw [e2,Int.mul_add,Int.mul_one]
        omega
      have a1:Int.tmod a b<0:=by omega
      simp only [hz,a1,e2,e1,not_false_eq_true,if_true,decide_true];rw [iX (n:=a / b+1) (by omega) (by omega),iX (n:=a / b+1 - 1) (by omega) (by omega),iX (n:=a % b) (by omega) (by omega)];simp
  · have e1:Int.tmod a b=a % b:=Int.tmod_eq_emod_of_nonneg hpos
    have e2:Int.tdiv a b=a / b:=Int.tdiv_eq_ediv_of_nonneg hpos;have a1:¬ a % b<0:=by omega
    simp only [e1,e2,a1,decide_false,beq_self_eq_true];rw [iX (n:=a / b) (by omega) (by omega)];simp
theorem zw (n:Int):wC .u64 n=n % 18446744073709551616:=by rw [aaU,wrap_u64]
theorem uJ {n:Int} (h₀:0≤n) (h₁:n<18446744073709551616):wC .u64 n=n:=by rw [zw];omega
theorem abX (k:Nat) (a b:Int) (ha:0≤a∧a<18446744073709551616) (hb:0≤b∧b<18446744073709551616):bits_Mul64.f k a b=some (a*b / 18446744073709551616,a*b % 18446744073709551616):=by
  obtain ⟨a1,ha1⟩:∃ a1,a / 4294967296=a1:=⟨_,rfl⟩;obtain ⟨a0,ha0⟩:∃ a0,a % 4294967296=a0:=⟨_,rfl⟩;obtain ⟨b1,hb1⟩:∃ b1,b / 4294967296=b1:=⟨_,rfl⟩;obtain ⟨b0,hb0⟩:∃ b0,b % 4294967296=b0:=⟨_,rfl⟩;have ea:a=a1*4294967296+a0:=by omega
  have eb:b=b1*4294967296+b0:=by omega
  have x1:=zl a0 b0 (by omega) (by omega) (by omega) (by omega);have y1:=zl a1 b0 (by omega) (by omega) (by omega) (by omega);have z1:=zl a0 b1 (by omega) (by omega) (by omega) (by omega);have v1:=zl a1 b1 (by omega) (by omega) (by omega) (by omega);have id:a*b=a1*b1*18446744073709551616+(a1*b0+a0*b1)*4294967296+a0*b0:=by rw [ea,eb];grind
  have hN:a*b<18446744073709551616*18446744073709551616:=by
    have:=Int.mul_le_mul (show a≤18446744073709551615 by omega) (show b≤18446744073709551615 by omega) hb.1 (by omega);omega
  have fd:∀ x:Int,Int.fdiv x 4294967296=x / 4294967296:=fun x=>Int.fdiv_eq_ediv_of_nonneg _ (by omega);unfold bits_Mul64.f;simp only [fd];rw [uH a ha.1 ha.2,uH b hb.1 hb.2,ha1,ha0,hb1,hb0];rw [zw (a*b),id];rw [id] at hN;obtain ⟨x,hx⟩:∃ x,a0*b0=x:=⟨_,rfl⟩;obtain ⟨y,hy⟩:∃ y,a1*b0=y:=⟨_,rfl⟩;obtain ⟨z,hz⟩:∃ z,a0*b1=z:=⟨_,rfl⟩;obtain ⟨v,hv⟩:∃ v,a1*b1=v:=⟨_,rfl⟩;simp only [hx,hy,hz,hv] at x1 y1 z1 v1 hN ⊢;rw [uJ (n:=x) (by omega) (by omega),uJ (n:=y) (by omega) (by omega),uJ (n:=z) (by omega) (by omega),uJ (n:=v) (by omega) (by omega)];rw [uJ (n:=y+x / 4294967296) (by omega) (by omega)];rw [uH (y+x / 4294967296) (by omega) (by omega)];rw [uJ (n:=(y+x / 4294967296) % 4294967296+z) (by omega) (by omega)];rw [uJ (n:=v+(y+x / 4294967296) / 4294967296) (by omega) (by omega)];rw [uJ (n:=v+(y+x / 4294967296) / 4294967296+((y+x / 4294967296) % 4294967296+z) / 4294967296) (by omega) (by omega)];congr 1;refine Prod.ext ?_ rfl;show v+(y+x / 4294967296) / 4294967296+((y+x / 4294967296) % 4294967296+z) / 4294967296=(v*18446744073709551616+(y+z)*4294967296+x) / 18446744073709551616;omega
theorem zx (k:Nat) (a:Int) (h1 : -9223372036854775808≤a) (h2:a≤9223372036854775807):iD.f k a=some (if a<0 then -a else a):=by
  simp only [iD.f,decide_eq_true_eq,zw];by_cases h:a<0
  · rw [if_pos h,if_pos h]
    congr 1
    omega
  · rw [if_neg h,if_neg h]
    congr 1
    omega
theorem zy (k:Nat) (n:Int) (m:Bool) (h:0≤n∧n<18446744073709551616):iq.f k n m=some (if m=true then (if n≤9223372036854775808 then (-n,0) else (0,10)) else (if n≤9223372036854775807 then (n,0) else (0,10))):=by
  cases m with
  | true =>
    simp only [iq.f,decide_eq_true_eq,if_true];by_cases g:n≤9223372036854775808
    · have:wq (wC .u64 (0 - n)) = -n:=by rw [zP,zw];unfold wrap64;omega
      rw [if_pos g,if_pos g,this]
    · simp [g]
  | false =>
    simp only [iq.f,decide_eq_true_eq];by_cases g:n≤9223372036854775807
    · have:wq n=n:=iX (by omega) g
      simp [g,this]
    · simp [g]
theorem zA (a b:Int) (ha : -9223372036854775808≤a∧a≤9223372036854775807) (hb:0≤b∧b≤9223372036854775807):Ev (fun k=>iH.f k a b) (zm a b):=by
  obtain ⟨n,hn⟩:∃ n,(if a<0 then -a else a)=n:=⟨_,rfl⟩;have hn0:0≤n∧n≤9223372036854775808:=by split at hn <;> omega
  have hb0:(if b<0 then -b else b)=b:=by rw [if_neg (by omega)]
  have hm:n*b=if a<0 then -(a*b) else a*b:=by
    rw [← hn];split
    · rw [Int.neg_mul]
    · rfl
  have hp:0≤n*b:=Int.mul_nonneg hn0.1 hb.1;have hbd:(decide (b<0))=false:=by simp;omega
  refine Ev.congr (f:=fun _=>some (zm a b)) (fun k => ?_) (Ev.now _);unfold iH.f;simp only [zx k a ha.1 ha.2,zx k b (by omega) hb.2,hn,hb0,Option.bind_some,abX k n b (by omega) (by omega),hbd,Bool.not_eq_true',decide_eq_false_iff_not];by_cases hhi:n*b / 18446744073709551616=0
  · have hlt:n*b<18446744073709551616:=by omega
    have hmod:n*b % 18446744073709551616=n*b:=by omega
    simp only [hhi,hmod,not_true,if_false];rw [zy k (n*b) _ ⟨hp,hlt⟩,Option.bind_some];by_cases hs:a<0
    · rw [if_pos hs] at hm
      simp only [hs,decide_true,hm];unfold zm;by_cases hz : -(a*b)≤9223372036854775808
      · simp [hz,show -9223372036854775808≤a*b∧a*b≤9223372036854775807 by omega]
      · simp [hz,show ¬ (-9223372036854775808≤a*b∧a*b≤9223372036854775807) by omega]
    · rw [if_neg hs] at hm
      simp only [hs,decide_false,hm];unfold zm;by_cases hz:a*b≤9223372036854775807
      · simp [hz,show -9223372036854775808≤a*b by omega]
      · simp [hz]
  · have:zm a b=(0,10):=by
      unfold zm;rw [if_neg];split at hm <;> omega
    rw [this,if_pos hhi]
end Go.Proofs.YtcomnjodjijcmaaGreat.Q
namespace Go.Proofs.YtcomnjodjijcmaaGreat.Q
set_option linter.unusedVariables false
set_option linter.unusedSimpArgs false
open Go.RowKit Go.Proofs.YtcomnjodjijcmaaGreatW.dA Go.Proofs.YtcomnjodjijcmaaGreatW.eD M R P
variable [Inhabited WT]
variable {p c:Int} {core:List (List Sp)} {odd:List Gn}
theorem abY (h:SF p c core odd) (i:Int) (hi : -4611686018427387904≤i∧i≤4611686018427387904):Ev (fun k=>iZ.f k p c core odd i) (pE p c core odd i):=by
  obtain ⟨r,r1,r2⟩:=uI h i;have hc0:=h.hc;have hl0:=h.hl;unfold iZ.f;refine Ev.bind r1 ?_;by_cases hr:r.2=true
  · obtain ⟨hj,he⟩:=r2.is hr
    have hv:pE p c core odd i=(odd[r.1.toNat].f1,0,0):=by
      unfold pE;rw [← he,lJ h.hup (List.getElem_mem hj)]
    rw [hv];have c1:=r2.low;have c2:r.1<(odd.length:Int):=by omega
    simp only [hr,c1,c2,if_true,aix odd _ hj];exact Ev.now _
  · have hr':r.2=false:=by simpa using hr
    have hno:=r2.no hr';simp only [hr',Bool.false_eq_true,if_false,decide_eq_true_eq];by_cases hc:c=0
    · have hv:pE p c core odd i=([],0,0):=by unfold pE;rw [hno];simp [hc]
      rw [hv];exact Ev.yes hc (Ev.now _)
    · have hv:pE p c core odd i=(gJ c core i,zm (i / c) p):=by unfold pE;rw [hno];simp [hc]
      rw [hv];refine Ev.no hc (Ev.bind (qp i c hi (by omega)) ?_);have h1:=Int.emod_nonneg i hc;have h2:=Int.emod_lt_of_pos i (show 0<c by omega);have hq:=abV (b:=c) hi (by omega);have hp0:=h.hp0;have hp1:=h.hp1;refine Ev.bind (zA (i / c) p (by omega) (by omega)) ?_;have h4:(i % c).toNat<core.length:=by omega
      have e2:gJ c core i=core[(i % c).toNat]:=by unfold gJ;rw [if_neg hc,List.getD_eq_getElem?_getD,List.getElem?_eq_getElem h4];rfl
      have h5:i % c<(core.length:Int):=by omega
      simp only [h1,h5,if_true,e2,aiy core _ h4];exact Ev.now _
theorem jV (h:SF p c core odd) (i:Int):Ev (fun k=>gy.f k p c core odd i) (jJ p c core odd i):=by
  unfold gy.f jJ;simp only [jU,Option.bind_some,Bool.not_eq_true',decide_eq_true_eq,decide_eq_false_iff_not];by_cases hi:inR i
  · have hi':=hi
    unfold inR at hi';simp only [hi,not_true,if_false,if_true];refine Ev.bind (abY h i (by omega)) ?_;have hk:=wH (p:=p) (c:=c) (core:=core) (odd:=odd) i;have aa:=h.uy i;by_cases hz:fs c core odd i=[]
    · rw [if_pos hz]
      exact Ev.yes (by rw [hk,hz];rfl) (Ev.now _)
    · rw [if_neg hz]
      have hlen:¬ ((fs c core odd i).length:Int)=0:=by
        intro e;exact hz (List.eq_nil_of_length_eq_zero (by omega))
      simp only [hk,hlen,if_false];have ab:=aa.ends hz;by_cases he:(pE p c core odd i).2.2=0
      · simp only [he,not_true,if_false]
        have hb:(pE p c core odd i).2.1=fb p c odd i ∧ -9223372036854775808≤fb p c odd i∧fb p c odd i≤9223372036854775807:=by
          unfold pE at he ⊢;unfold fb;cases ho:jh odd i with
          | some l=>simp
          | none =>
            simp only [ho] at he ⊢;by_cases hc:c=0
            · subst hc;simp
            · simp only [if_neg hc,zm] at he ⊢
              split at he
              · rename_i hm;simp only [if_pos hm];exact ⟨trivial,hm⟩
              · simp at he
        simp only [hb.1];exact Ev.bind (f:=fun _ a=>some (a.1,a.2)) (abS _ _ aa hb.2) (Ev.now _)
      · have hb:fb p c odd i < -9223372036854775808∨9223372036854775807<fb p c odd i:=by
          unfold pE at he;unfold fb;cases ho:jh odd i with
          | some l=>simp [ho] at he
          | none =>
            simp only [ho] at he ⊢;by_cases hc:c=0
            · simp [hc] at he
            · simp only [if_neg hc,zm] at he
              split at he
              · simp at he
              · omega
        have hm:mK (fb p c odd i) (fs c core odd i)=([],20):=by
          unfold mK;rw [if_neg];rw [aa.oF hz];omega
        rw [hm];exact Ev.yes he (Ev.now _)
  · simp only [hi,not_false_eq_true,if_true,if_false]
    exact Ev.now _
theorem uK (h:SF p c core odd) (i:Int) (hi:inR i):Ev (fun k=>jr.f k p c core odd i) (decide (fs c core odd i≠[])):=by
  unfold inR at hi;unfold jr.f;refine Ev.bind (abY h i (by omega)) ?_;rw [wH];refine Ev.congr (f:=fun _=>some (decide (fs c core odd i≠[]))) (fun k => ?_) (Ev.now _);congr 1;cases fs c core odd i with
  | nil=>simp
  | cons s r=>simp
theorem abZ (h:SF p c core odd):∃ b,Ev (fun k=>eY.f k p c core odd) b∧(b=true↔∀ l∈core,l=[]):=by
  have hl0:=h.hl;unfold eY.f;have key:∀ (rest pre:List (List Sp)),core=pre++rest→(∀ l∈pre,l=[])→∃ b,Ev (fun k=>eY.l0 (fun y=>some (!decide (y≥0))) (some true) core (core.length:Int) k (pre.length:Int)) b∧(b=true↔∀ l∈core,l=[]):=by
    intro rest;induction rest with
    | nil =>
      intro pre hp he;refine ⟨true,Ev.step (f:=fun _=>some true) (fun k => ?_) (Ev.now _),?_⟩
      · have c1:¬ (pre.length:Int)<(core.length:Int):=by rw [hp];simp
        simp only [eY.l0,eY.l0T,decide_eq_true_eq,c1,if_false]
      · simp only [List.append_nil] at hp
        subst hp;exact ⟨fun _=>he,fun _=>rfl⟩
    | cons l r ih =>
      intro pre hp he;have hlen:pre.length+1≤core.length:=by rw [hp];simp
      have hrd:gL core (pre.length:Int)=l:=by rw [hp];simp [gL]
      have c1:(pre.length:Int)<(core.length:Int):=by omega
      have c2:(0:Int)≤(pre.length:Int):=by omega
      have hw:=nx c1 c2 (by omega);by_cases hz:l=[]
      · obtain ⟨x,x1,x2⟩:=ih (pre++[l]) (by rw [hp];simp) (fun y hy=>by rcases List.mem_append.1 hy with hy | hy;exact he y hy;simp at hy;rw [hy];exact hz)
        refine ⟨x,Ev.step (fun k=>rfl) ?_,x2⟩;simp only [eY.l0,eY.l0T,decide_eq_true_eq,c1,c2,if_true,hrd,hw,iP.f,hz,Option.bind_some];rw [len1 _ l];exact x1
      · refine ⟨false,Ev.step (f:=fun _=>some false) (fun k => ?_) (Ev.now _),?_⟩
        · have:((l.length:Int)>0):=by have:=List.length_pos_iff.2 hz;omega
          simp only [eY.l0,eY.l0T,decide_eq_true_eq,c1,c2,if_true,hrd,iP.f,this,Option.bind_some];simp
        · constructor
          · intro e;cases e
          · intro e;exact absurd (e l (by rw [hp];simp)) hz
  exact key core [] rfl (by simp)
theorem aaw (h:SF p c core odd) (a:Int) (ha : -1099511627776≤a∧a≤1099511627777):∃ r,Ev (fun k=>dG.f k p c core odd a 1) r∧zn c core odd a r:=by
  have hlo:=h.hlo;obtain ⟨b,b1,b2⟩:=abZ h;unfold dG.f;by_cases hb:b=true
  · have hbare:=b2.1 hb
    obtain ⟨r,r1,r2⟩:=uI h a;have key:∀ (d n:Nat),odd.length - n=d→n≤odd.length→(∀ j (hj:j<odd.length),j<n→odd[j].f0<a∨odd[j].f1=[])→(∀ j (hj:j<odd.length),n≤j→a≤odd[j].f0) →
        ∃ x,Ev (fun k=>dG.l1 (fun y=>some (y,true)) (some (0,false)) 1 odd k (n:Int)) x∧zn c core odd a x:=by
      intro d;induction d with
      | zero =>
        intro n hd hn h1 h2;have hnn:n=odd.length:=by omega
        refine ⟨(0,false),Ev.step (f:=fun _=>some (0,false)) (fun k => ?_) (Ev.now _),(fun e=>by cases e),fun _=>⟨rfl,fun m hm _ => ?_⟩⟩
        · have c1:¬ (n:Int)<(odd.length:Int):=by omega
          simp [dG.l1,dG.l1T,c1]
        · refine Classical.byContradiction fun hne => ?_
          obtain ⟨j,hj,e1,e2⟩:=uz h hbare hne;rcases h1 j hj (by omega) with g | g
          · omega
          · exact e2 g
      | succ d ih =>
        intro n hd hn h1 h2;have hlt:n<odd.length:=by omega
        have c0:(n:Int)≥0:=by omega
        have c1:(n:Int)<(odd.length:Int):=by omega
        have c2:(0:Int)≤(n:Int):=by omega
        by_cases hz:odd[n].f1=[]
        · obtain ⟨x,x1,x2⟩:=ih (n+1) (by omega) (by omega) (fun j hj hjn=>by
            rcases Nat.lt_or_ge j n with g | g
            · exact h1 j hj g
            · have:j=n:=by omega
              subst this;exact .inr hz) (fun j hj hjn=>h2 j hj (by omega))
          refine ⟨x,Ev.step (fun k=>rfl) ?_,x2⟩;have hw:wq ((n:Int)+1)=((n+1:Nat):Int):=by rw [iX (by omega) (by omega)];simp
          simp only [dG.l1,dG.l1T,decide_eq_true_eq,c0,c1,c2,if_true,rdG odd n hlt,hz,hw];exact x1
        · refine ⟨(odd[n].f0,true),Ev.step (f:=fun _=>some (odd[n].f0,true)) (fun k => ?_) (Ev.now _),fun _=>⟨h2 n hlt (Nat.le_refl _),h.hidx _ (List.getElem_mem hlt),by rw [zq h hlt];exact hz,fun m hm1 hm2 => ?_⟩,(fun e=>by cases e)⟩
          · have c3:(odd[n].f1.length:Int)>0:=by have:=List.length_pos_iff.2 hz;omega
            simp only [dG.l1,dG.l1T,decide_eq_true_eq,c0,c1,c2,c3,if_true,rdG odd n hlt]
          · refine Classical.byContradiction fun hne => ?_
            obtain ⟨j,hj,e1,e2⟩:=uz h hbare hne;rcases Nat.lt_or_ge j n with g | g
            · rcases h1 j hj g with g2 | g2
              · omega
              · exact e2 g2
            · rcases Nat.lt_or_ge n j with g2 | g2
              · have:=xS h.hup hj g2;simp only at hm2;omega
              · have:j=n:=by omega
                subst this;simp only at hm2;omega
    have e1:(r.1.toNat:Int)=r.1:=Int.toNat_of_nonneg r2.low;have hhi:=r2.high;obtain ⟨x,x1,x2⟩:=key _ r.1.toNat rfl (by omega) (fun j hj hjn=>.inl (r2.below j hj (by omega))) (fun j hj hjn=>r2.above j hj (by omega));rw [e1] at x1;refine ⟨x,?_,x2⟩;refine Ev.bind b1 (Ev.yes hb (Ev.bind r1 (Ev.no (by simp) ?_)));exact x1
  · have key:∀ (d:Nat) (i:Int),(1099511627777 - i).toNat=d→a≤i→i≤1099511627777→(∀ m,a≤m→m<i→fs c core odd m=[])→∃ x,Ev (fun k=>dG.l2 (fun y=>some (y,true)) (some (0,false)) 1 p c core odd k i) x∧zn c core odd a x:=by
      intro d;induction d with
      | zero =>
        intro i hd h1 h2 h3;have hi:¬ inR i:=by unfold inR;omega
        refine ⟨(0,false),Ev.step (f:=fun _=>some (0,false)) (fun k => ?_) (Ev.now _),(fun e=>by cases e),fun _=>⟨rfl,fun m hm hr=>h3 m hm (by unfold inR at hr;omega)⟩⟩;simp [dG.l2,dG.l2T,jU,hi]
      | succ d ih =>
        intro i hd h1 h2 h3;have hi:inR i:=by unfold inR;omega
        by_cases hz:fs c core odd i=[]
        · obtain ⟨x,x1,x2⟩:=ih (i+1) (by omega) (by omega) (by omega) (fun m hm1 hm2=>by
            rcases Int.lt_or_le m i with g | g
            · exact h3 m hm1 g
            · have:m=i:=by omega
              subst this;exact hz)
          refine ⟨x,Ev.step (fun k=>rfl) ?_,x2⟩;simp only [dG.l2,dG.l2T,jU,hi,decide_true,Option.bind_some,if_true];refine Ev.bind (uK h i hi) (Ev.no (by simp [hz]) ?_);rw [iX (by omega) (by omega)];exact x1
        · refine ⟨(i,true),Ev.step (fun k=>rfl) ?_,fun _=>⟨h1,hi,hz,h3⟩,(fun e=>by cases e)⟩
          simp only [dG.l2,dG.l2T,jU,hi,decide_true,Option.bind_some,if_true];exact Ev.bind (uK h i hi) (Ev.yes (by simp [hz]) (Ev.now _))
    obtain ⟨x,x1,x2⟩:=key _ a rfl (Int.le_refl _) ha.2 (fun m h1 h2=>by omega);exact ⟨x,Ev.bind b1 (Ev.no hb x1),x2⟩
theorem aax (h:SF p c core odd) (a:Int) (ha : -1099511627777≤a∧a≤1099511627776):∃ r,Ev (fun k=>dG.f k p c core odd a (-1)) r∧zo c core odd a r:=by
  have hlo:=h.hlo;obtain ⟨b,b1,b2⟩:=abZ h;unfold dG.f;by_cases hb:b=true
  · have hbare:=b2.1 hb
    obtain ⟨r,r1,r2⟩:=uI h a;have key:∀ (n:Nat),n≤odd.length→(∀ j (hj:j<odd.length),n≤j→a<odd[j].f0∨odd[j].f1=[])→(∀ j (hj:j<odd.length),j<n→odd[j].f0≤a) →
        ∃ x,Ev (fun k=>dG.l1 (fun y=>some (y,true)) (some (0,false)) (-1) odd k ((n:Int) - 1)) x∧zo c core odd a x:=by
      intro n;induction n with
      | zero =>
        intro hn h1 h2;refine ⟨(0,false),Ev.step (f:=fun _=>some (0,false)) (fun k => ?_) (Ev.now _),(fun e=>by cases e),fun _=>⟨rfl,fun m hm _ => ?_⟩⟩
        · simp [dG.l1,dG.l1T]
        · refine Classical.byContradiction fun hne => ?_
          obtain ⟨j,hj,e1,e2⟩:=uz h hbare hne;rcases h1 j hj (by omega) with g | g
          · omega
          · exact e2 g
      | succ n ih =>
        intro hn h1 h2;have hlt:n<odd.length:=by omega
        have en:((n+1:Nat):Int) - 1=(n:Int):=by omega
        rw [en];have c0:(n:Int)≥0:=by omega
        have c1:(n:Int)<(odd.length:Int):=by omega
        have c2:(0:Int)≤(n:Int):=by omega
        by_cases hz:odd[n].f1=[]
        · obtain ⟨x,x1,x2⟩:=ih (by omega) (fun j hj hjn=>by
            rcases Nat.lt_or_ge n j with g | g
            · exact h1 j hj g
            · have:j=n:=by omega
              subst this;exact .inr hz) (fun j hj hjn=>h2 j hj (by omega))
          refine ⟨x,Ev.step (fun k=>rfl) ?_,x2⟩;have hw:wq ((n:Int) + -1)=(n:Int) - 1:=by rw [iX (by omega) (by omega)];omega
          simp only [dG.l1,dG.l1T,decide_eq_true_eq,c0,c1,c2,if_true,rdG odd n hlt,hz,hw];exact x1
        · refine ⟨(odd[n].f0,true),Ev.step (f:=fun _=>some (odd[n].f0,true)) (fun k => ?_) (Ev.now _),fun _=>⟨h2 n hlt (by omega),h.hidx _ (List.getElem_mem hlt),by rw [zq h hlt];exact hz,fun m hm1 hm2 => ?_⟩,(fun e=>by cases e)⟩
          · have c3:(odd[n].f1.length:Int)>0:=by have:=List.length_pos_iff.2 hz;omega
            simp only [dG.l1,dG.l1T,decide_eq_true_eq,c0,c1,c2,c3,if_true,rdG odd n hlt]
          · refine Classical.byContradiction fun hne => ?_
            obtain ⟨j,hj,e1,e2⟩:=uz h hbare hne;rcases Nat.lt_or_ge n j with g | g
            · rcases h1 j hj g with g2 | g2
              · omega
              · exact e2 g2
            · rcases Nat.lt_or_ge j n with g2 | g2
              · have:=xS h.hup hlt g2;simp only at hm2;omega
              · have:j=n:=by omega
                subst this;simp only at hm2;omega
    have e1:(r.1.toNat:Int)=r.1:=Int.toNat_of_nonneg r2.low;have hhi:=r2.high;by_cases hr:r.2=true
    · obtain ⟨hj,he⟩:=r2.is hr
      obtain ⟨x,x1,x2⟩:=key (r.1.toNat+1) (by omega) (fun j hj2 hjn=>.inl (by have:=xS h.hup hj2 (show r.1.toNat<j by omega);omega)) (fun j hj2 hjn=>by
        rcases Nat.lt_or_ge j r.1.toNat with g | g
        · have:=xS h.hup hj g;omega
        · have:j=r.1.toNat:=by omega
          subst this;omega)
      have en:((r.1.toNat+1:Nat):Int) - 1=r.1:=by omega
      rw [en] at x1;exact ⟨x,Ev.bind b1 (Ev.yes hb (Ev.bind r1 (Ev.yes (by simp) (Ev.no (by simp [hr]) x1)))),x2⟩
    · have hr':r.2=false:=by simpa using hr
      have hno:=jv.1 (r2.no hr');obtain ⟨x,x1,x2⟩:=key r.1.toNat (by omega) (fun j hj2 hjn=>.inl (by have:=r2.above j hj2 (by omega);have:=hno _ (List.getElem_mem hj2);omega)) (fun j hj2 hjn=>by have:=r2.below j hj2 (by omega);omega);have en:((r.1.toNat:Nat):Int) - 1=wq (r.1 - 1):=by rw [iX (by have:=r2.low;omega) (by omega)];omega
      rw [en] at x1;exact ⟨x,Ev.bind b1 (Ev.yes hb (Ev.bind r1 (Ev.yes (by simp) (Ev.yes (by simp [hr']) x1)))),x2⟩
  · have key:∀ (d:Nat) (i:Int),(i+1099511627777).toNat=d→i≤a → -1099511627777≤i→(∀ m,m≤a→i<m→fs c core odd m=[])→∃ x,Ev (fun k=>dG.l2 (fun y=>some (y,true)) (some (0,false)) (-1) p c core odd k i) x∧zo c core odd a x:=by
      intro d;induction d with
      | zero =>
        intro i hd h1 h2 h3;have hi:¬ inR i:=by unfold inR;omega
        refine ⟨(0,false),Ev.step (f:=fun _=>some (0,false)) (fun k => ?_) (Ev.now _),(fun e=>by cases e),fun _=>⟨rfl,fun m hm hr=>h3 m hm (by unfold inR at hr;omega)⟩⟩;simp [dG.l2,dG.l2T,jU,hi]
      | succ d ih =>
        intro i hd h1 h2 h3;have hi:inR i:=by unfold inR;omega
        by_cases hz:fs c core odd i=[]
        · obtain ⟨x,x1,x2⟩:=ih (i - 1) (by omega) (by omega) (by omega) (fun m hm1 hm2=>by
            rcases Int.lt_or_le i m with g | g
            · exact h3 m hm1 g
            · have:m=i:=by omega
              subst this;exact hz)
          refine ⟨x,Ev.step (fun k=>rfl) ?_,x2⟩;simp only [dG.l2,dG.l2T,jU,hi,decide_true,Option.bind_some,if_true];refine Ev.bind (uK h i hi) (Ev.no (by simp [hz]) ?_);rw [iX (by omega) (by omega)];exact x1
        · refine ⟨(i,true),Ev.step (fun k=>rfl) ?_,fun _=>⟨h1,hi,hz,h3⟩,(fun e=>by cases e)⟩
          simp only [dG.l2,dG.l2T,jU,hi,decide_true,Option.bind_some,if_true];exact Ev.bind (uK h i hi) (Ev.yes (by simp [hz]) (Ev.now _))
    obtain ⟨x,x1,x2⟩:=key _ a rfl (Int.le_refl _) ha.1 (fun m h1 h2=>by omega);exact ⟨x,Ev.bind b1 (Ev.no hb x1),x2⟩
theorem ab0 (h:SF p c core odd) (i:Int) (hi : -9223372036854775808≤i∧i≤9223372036854775807):∃ r,Ev (fun k=>iR.f k p c core odd i) r∧zn c core odd (max (i+1) (-1099511627776)) r:=by
  simp only [iR.f,decide_eq_true_eq];by_cases hm:i≥1099511627776
  · exact ⟨(0,false),Ev.yes hm (Ev.now _),(fun e=>by cases e),fun _=>⟨rfl,fun m h1 h2=>by unfold inR at h2;omega⟩⟩
  · obtain ⟨r,r1,r2⟩:=aaw h (max (i+1) (-1099511627776)) (by omega)
    rw [iX (n:=i+1) (by omega) (by omega),ahK];exact ⟨r,Ev.no hm (Ev.bind (f:=fun _ a=>some (a.1,a.2)) r1 (Ev.now _)),r2⟩
theorem ab1 (h:SF p c core odd) (i:Int) (hi : -9223372036854775808≤i∧i≤9223372036854775807):∃ r,Ev (fun k=>iQ.f k p c core odd i) r∧zo c core odd (min (i - 1) 1099511627776) r:=by
  simp only [iQ.f,decide_eq_true_eq];by_cases hm:i ≤ -1099511627776
  · exact ⟨(0,false),Ev.yes hm (Ev.now _),(fun e=>by cases e),fun _=>⟨rfl,fun m h1 h2=>by unfold inR at h2;omega⟩⟩
  · obtain ⟨r,r1,r2⟩:=aax h (min (i - 1) 1099511627776) (by omega)
    rw [iX (n:=i - 1) (by omega) (by omega),ahJ];exact ⟨r,Ev.no hm (Ev.bind (f:=fun _ a=>some (a.1,a.2)) r1 (Ev.now _)),r2⟩
end Go.Proofs.YtcomnjodjijcmaaGreat.Q
namespace Go.Proofs.YtcomnjodjijcmaaGreat.Q
set_option linter.unusedVariables false
set_option linter.unusedSimpArgs false
open Go.RowKit Go.Proofs.YtcomnjodjijcmaaGreatW.dA Go.Proofs.YtcomnjodjijcmaaGreatW.eD M R P
section
variable {p c:Int} {core:List (List Sp)} {odd:List Gn}
structure Bes (p c:Int) (core:List (List Sp)) (odd:List Gn) (i:Int):Prop where
  he:(jJ p c core odd i).2=0
  up:∀ k,i<k→inR k→fs c core odd k≠[]→gap c core odd i k→(jJ p c core odd k).2=0∧jE (jJ p c core odd i).1 (jJ p c core odd k).1=true
  dn:∀ k,k<i→inR k→fs c core odd k≠[]→gap c core odd k i→(jJ p c core odd k).2=0∧jE (jJ p c core odd k).1 (jJ p c core odd i).1=true
  ov:∀ j k,j<i→i<k→inR j→inR k→fs c core odd j≠[]→fs c core odd k≠[]→gap c core odd j i→gap c core odd i k→jE (jJ p c core odd j).1 (jJ p c core odd k).1=true
def lM (core:List (List Sp)) (odd:List Gn):Int:=((core.map fun l=>(l.length:Int)).sum)+((odd.map fun g=>(g.f1.length:Int)).sum)
structure GR (p c:Int) (core:List (List Sp)) (odd:List Gn):Prop where
  s:SF p c core odd
  t:TF p core
  b:∀ g∈odd,Bes p c core odd g.f0
theorem agl (x:List Sp) (hx:x≠[]):0<x.length∧(gS x 0).f0=lu x:=agk x hx
theorem kg (h:SF p c core odd) (j:Int):(jJ p c core odd j).1.length≤4611686018427387904:=by
  have hs:=(h.uy j).uD;unfold jJ;split
  · split
    · simp
    · unfold mK;split
      · simp;omega
      · simp
  · simp
theorem aay (l:List Sp):jE l []=true:=by unfold jE;cases l.getLast? <;> rfl
theorem oG {l:List Int} (h:∀ x∈l,0≤x):0≤l.sum:=by
  induction l with
  | nil=>simp
  | cons a r ih=>have:=h a (by simp);have:=ih (fun x hx=>h x (by simp [hx]));simp;omega
theorem GR.fok (h:GR p c core odd):FOK p c core odd:=FOK.of h.s h.t ⟨fun g hg hgn k hk rk nk gk=>by
    have hb:=h.b g hg;obtain ⟨b1,b2⟩:=hb.up k hk rk nk gk;obtain ⟨j,hj,rfl⟩:=List.getElem_of_mem hg;have hn0:fs c core odd odd[j].f0≠[]:=by rw [zq h.s hj];exact hgn
    have e1:=h.s.uF (h.s.hidx _ (List.getElem_mem hj)) hn0 hb.he;have e2:=h.s.uF rk nk b1;rw [h.s.pF e1,h.s.pF e2,rF] at b2;have g1:=kW (p:=p) hn0;have g2:=kW (p:=p) nk;have:=b2 g1.1 g2.1;rw [g1.2.2,g2.2.1] at this;exact this,fun g hg hgn k hk rk nk gk=>by
    have hb:=h.b g hg;obtain ⟨b1,b2⟩:=hb.dn k hk rk nk gk;obtain ⟨j,hj,rfl⟩:=List.getElem_of_mem hg;have hn0:fs c core odd odd[j].f0≠[]:=by rw [zq h.s hj];exact hgn
    have e1:=h.s.uF (h.s.hidx _ (List.getElem_mem hj)) hn0 hb.he;have e2:=h.s.uF rk nk b1;rw [h.s.pF e1,h.s.pF e2,rF] at b2;have g1:=kW (p:=p) hn0;have g2:=kW (p:=p) nk;have:=b2 g2.1 g1.1;rw [g2.2.2,g1.2.1] at this;exact this⟩
end
variable [Inhabited WT]
variable {p c:Int} {core:List (List Sp)} {odd:List Gn}
theorem adv (m:MF core odd) (hl:core.length≤6000) (hlo:odd.length≤6000):∃ b,Ev (fun k=>dF.f k p c core odd) b∧(b=true↔SF p c core odd):=by
  have k1:∀ (rest pre:List Gn),odd=pre++rest→pre.Pairwise (fun a b=>a.f0<b.f0) →
      ∃ b,Ev (fun k=>dF.l2 (some false) (some true) odd (odd.length:Int) odd k (pre.length:Int)) b∧(b=true↔(∀ g∈rest,SL (-1099511627776) 1099511627776 g.f1∧inR g.f0)∧odd.Pairwise (fun a b=>a.f0<b.f0)):=by
    intro rest;induction rest with
    | nil =>
      intro pre hp h2;refine ⟨true,Ev.step (f:=fun _=>some true) (fun k => ?_) (Ev.now _),?_⟩
      · have c1:¬ (pre.length:Int)<(odd.length:Int):=by rw [hp];simp
        simp only [dF.l2,dF.l2T,decide_eq_true_eq,c1,if_false]
      · rw [List.append_nil] at hp;subst hp;simp [h2]
    | cons g r ih =>
      intro pre hp h2;have hlen:pre.length+1≤odd.length:=by rw [hp];simp
      have hrd:gG odd (pre.length:Int)=g:=by rw [hp];simp [gG]
      have c1:(pre.length:Int)<(odd.length:Int):=by omega
      have c2:(0:Int)≤(pre.length:Int):=by omega
      have hw:=nx c1 c2 (by omega);have hr:=zu g.f1 (m.mo g (by rw [hp];simp));by_cases hs:slB (-1099511627776) g.f1=true
      · by_cases hi:inR g.f0
        · by_cases ho:∀ a∈pre,a.f0<g.f0
          · obtain ⟨b,b1,b2⟩:=ih (pre++[g]) (by rw [hp];simp) (List.pairwise_append.2 ⟨h2,by simp,fun a ha b hb=>by simp at hb;subst hb;exact ho a ha⟩)
            refine ⟨b,Ev.step (fun k=>rfl) ?_,b2.trans ⟨fun ⟨x,y⟩=>⟨fun a ha=>by rcases List.mem_cons.1 ha with rfl | ha;exact ⟨nT.1 hs,hi⟩;exact x a ha,y⟩,fun ⟨x,y⟩=>⟨fun a ha=>x a (List.mem_cons_of_mem _ ha),y⟩⟩⟩;simp only [dF.l2,dF.l2T,decide_eq_true_eq,c1,c2,if_true,hrd,hw];refine Ev.bind hr (Ev.no (by simp [hs]) ?_);simp only [jU,Option.bind_some];refine Ev.no (by simp [hi]) ?_;rw [len1 _ g];by_cases hz:(pre.length:Int)>0
            · have hw2:wq ((pre.length:Int) - 1)=((pre.length - 1:Nat):Int):=by rw [iX (by omega) (by omega)];omega
              have hpl:pre.length - 1<pre.length:=by omega
              have aa:gG odd ((pre.length - 1:Nat):Int)=pre[pre.length - 1]:=by
                rw [rdG odd (pre.length - 1) (by omega)];simp only [hp];rw [List.getElem_append_left hpl]
              have:=ho _ (List.getElem_mem hpl);simp only [hw2,aa];exact Ev.yes hz (Ev.yes (by omega) (Ev.yes (by omega) (Ev.no (by omega) b1)))
            · exact Ev.no hz b1
          · have hz:0<pre.length:=by
              cases pre with
              | nil=>exact absurd (by simp) ho
              | cons a r=>simp
            have hpl:pre.length - 1<pre.length:=by omega
            have hbad:g.f0≤pre[pre.length - 1].f0:=by
              refine Classical.byContradiction fun hx=>ho fun a ha => ?_;obtain ⟨j,hj,rfl⟩:=List.getElem_of_mem ha;rcases Nat.lt_or_ge j (pre.length - 1) with q | q
              · have:=List.pairwise_iff_getElem.1 h2 j (pre.length - 1) hj hpl q;omega
              · have:j=pre.length - 1:=by omega
                subst this;omega
            refine ⟨false,Ev.step (fun k=>rfl) ?_,(fun e=>by cases e),fun ⟨x,y⟩=>(ho fun a ha => ?_).elim⟩
            · have hw2:wq ((pre.length:Int) - 1)=((pre.length - 1:Nat):Int):=by rw [iX (by omega) (by omega)];omega
              have aa:gG odd ((pre.length - 1:Nat):Int)=pre[pre.length - 1]:=by
                rw [rdG odd (pre.length - 1) (by omega)];simp only [hp];rw [List.getElem_append_left hpl]
              simp only [dF.l2,dF.l2T,decide_eq_true_eq,c1,c2,if_true,hrd,hw];refine Ev.bind hr (Ev.no (by simp [hs]) ?_);simp only [jU,Option.bind_some,hw2,aa];exact Ev.no (by simp [hi]) (Ev.yes (by omega) (Ev.yes (by omega) (Ev.yes (by omega) (Ev.yes hbad (Ev.now _)))))
            · rw [hp] at y
              exact (List.pairwise_append.1 y).2.2 a ha g (by simp)
        · refine ⟨false,Ev.step (fun k=>rfl) ?_,(fun e=>by cases e),fun ⟨x,y⟩=>(hi (x g (by simp)).2).elim⟩
          simp only [dF.l2,dF.l2T,decide_eq_true_eq,c1,c2,if_true,hrd,hw];refine Ev.bind hr (Ev.no (by simp [hs]) ?_);simp only [jU,Option.bind_some];exact Ev.yes (by simp [hi]) (Ev.now _)
      · refine ⟨false,Ev.step (fun k=>rfl) ?_,(fun e=>by cases e),fun ⟨x,y⟩=>(hs (nT.2 (x g (by simp)).1)).elim⟩
        simp only [dF.l2,dF.l2T,decide_eq_true_eq,c1,c2,if_true,hrd,hw];exact Ev.bind hr (Ev.yes (by simp [hs]) (Ev.now _))
  have k0:∀ (rest pre:List (List Sp)),core=pre++rest→∀ (Y:Nat→Option Bool) (b:Bool),Ev Y b →
      Ev (fun k=>dF.l1 (some false) (Y k) core (core.length:Int) k (pre.length:Int)) (rest.all (slB (-1099511627776))&&b):=by
    intro rest;induction rest with
    | nil =>
      intro pre hp Y b hY;refine Ev.step (fun k=>rfl) ?_;have c1:¬ (pre.length:Int)<(core.length:Int):=by rw [hp];simp
      simp only [dF.l1,dF.l1T,decide_eq_true_eq,c1,if_false];exact Ev.shift hY
    | cons l r ih =>
      intro pre hp Y b hY;have hlen:pre.length+1≤core.length:=by rw [hp];simp
      have hrd:gL core (pre.length:Int)=l:=by rw [hp];simp [gL]
      have c1:(pre.length:Int)<(core.length:Int):=by omega
      have c2:(0:Int)≤(pre.length:Int):=by omega
      have hw:=nx c1 c2 (by omega);have hr:=zu l (m.mc l (by rw [hp];simp));refine Ev.step (fun k=>rfl) ?_;simp only [dF.l1,dF.l1T,decide_eq_true_eq,c1,c2,if_true,hrd,hw,List.all_cons];by_cases hs:slB (-1099511627776) l=true
      · rw [hs,Bool.true_and]
        have:=ih (pre++[l]) (by rw [hp];simp) (fun k=>Y (k+1)) b (Ev.shift hY);rw [← len1] at this;exact Ev.bind hr (Ev.no (by simp [hs]) this)
      · have hs':slB (-1099511627776) l=false:=by simpa using hs
        rw [hs',Bool.false_and,Bool.false_and];exact Ev.bind hr (Ev.yes (by simp [hs]) (Ev.now _))
  have wrong:∀ {P:Prop},false=true→P:=fun e=>by cases e
  unfold dF.f;by_cases hc:c=(core.length:Int)
  · by_cases hz:(decide (c=0)==decide (p=0))=true
    · have hz':decide (c=0)=decide (p=0):=by simpa using hz
      have hz2:c=0↔p=0:=by simpa using hz'
      by_cases hp0:p<0
      · exact ⟨false,Ev.no (by simp [hc]) (Ev.no (by simp [hz']) (Ev.yes (by simpa using hp0) (Ev.now _))),wrong,fun h=>absurd h.hp0 (by omega)⟩
      · by_cases hp1:p>1099511627776
        · exact ⟨false,Ev.no (by simp [hc]) (Ev.no (by simp [hz']) (Ev.no (by simpa using hp0) (Ev.yes (by simpa using hp1) (Ev.now _)))),wrong,fun h=>absurd h.hp1 (by omega)⟩
        · obtain ⟨b,b1,b2⟩:=k1 odd [] rfl List.Pairwise.nil
          have:=k0 core [] rfl _ b b1;refine ⟨_,Ev.no (by simp [hc]) (Ev.no (by simp [hz']) (Ev.no (by simpa using hp0) (Ev.no (by simpa using hp1) this))),?_⟩;rw [Bool.and_eq_true,List.all_eq_true,b2];exact ⟨fun ⟨x1,x2,x3⟩=>⟨hc,by omega,by omega,hz2,fun l hl=>nT.1 (x1 l hl),fun g hg=>(x2 g hg).1,fun g hg=>(x2 g hg).2,x3,hl,hlo⟩,fun h=>⟨fun l hl=>nT.2 (h.hcore l hl),fun g hg=>⟨h.hodd g hg,h.hidx g hg⟩,h.hup⟩⟩
    · refine ⟨false,Ev.no (by simp [hc]) (Ev.yes (by simpa using hz) (Ev.now _)),wrong,fun h=>(hz ?_).elim⟩
      simpa using h.hz
  · exact ⟨false,Ev.yes (by simpa using hc) (Ev.now _),wrong,fun h=>(hc h.hc).elim⟩
theorem agm (x:List Sp) (hx:x≠[]) (hl:x.length≤4611686018427387903):wq ((x.length:Int) - 1)=(x.length:Int) - 1∧0≤(x.length:Int) - 1∧(gS x ((x.length:Int) - 1)).f1=lQ x:=by
  have:=agj x hx hl;rw [zP];exact this
theorem adw (h:SF p c core odd):∃ b,Ev (fun k=>dK.f k p c core odd) b∧(b=true↔TF p core):=by
  have hl:=h.hl;have hp0:=h.hp0;have hp1:=h.hp1;obtain ⟨ne,hne⟩:∃ ne,neL core=ne:=⟨_,rfl⟩;have hmem:∀ x∈ne,x∈core∧x≠[]:=fun x hx=>xU.1 (by rw [hne];exact hx);have hnl:ne.length≤6000:=by rw [← hne];exact Nat.le_trans (List.length_filter_le _ _) hl
  obtain ⟨g,hg⟩:∃ g:Nat→List Sp,g=fun j=>ne.getD j []:=⟨_,rfl⟩;have hgm:∀ j,j<ne.length→g j∈core∧g j≠[]:=fun j hj=>by
    rw [hg];simp only;rw [List.getD_eq_getElem?_getD,List.getElem?_eq_getElem hj];exact hmem _ (List.getElem_mem hj)
  have hgr:∀ j:Nat,gL ne (j:Int)=g j:=fun j=>by rw [hg];simp [gL]
  have hget:∀ j (hj2:j<ne.length),ne[j]=g j:=fun j hj2=>by rw [hg];simp only;rw [List.getD_eq_getElem?_getD,List.getElem?_eq_getElem hj2];rfl
  obtain ⟨Q,hQ⟩:∃ Q:Nat→Prop,Q=fun j=>lQ (g j)<lu (g ((j+1) % ne.length))+(if j+1=ne.length then p else 0):=⟨_,rfl⟩;have k1:∀ (d n:Nat),ne.length - n=d→n≤ne.length→(∀ j,j<n→Q j) →
      ∃ b,Ev (fun k=>dK.l1 (some false) (some true) ne ne (ne.length:Int) p k (n:Int)) b∧(b=true↔∀ j,j<ne.length→Q j):=by
    intro d;induction d with
    | zero =>
      intro n hd hn h1;refine ⟨true,Ev.step (f:=fun _=>some true) (fun k => ?_) (Ev.now _),fun _ j hj=>h1 j (by omega),fun _=>rfl⟩;have c1:¬ (n:Int)<(ne.length:Int):=by omega
      simp only [dK.l1,dK.l1T,decide_eq_true_eq,c1,if_false]
    | succ d ih =>
      intro n hd hn h1;have hlt:n<ne.length:=by omega
      obtain ⟨m,hm0⟩:∃ m,(n+1) % ne.length=m:=⟨_,rfl⟩;have hm:m<ne.length:=by rw [← hm0];exact Nat.mod_lt _ (by omega)
      have q1:(n:Int)<(ne.length:Int):=by clear hm0;omega
      have q2:(0:Int)≤(n:Int):=by clear hm0;omega
      have q3:¬ (ne.length:Int)=0:=by clear hm0;omega
      have q4:(0:Int)≤(m:Int):=by clear hm0;omega
      have q5:(m:Int)<(ne.length:Int):=by clear hm0;omega
      obtain ⟨x,hx0⟩:∃ x,g n=x:=⟨_,rfl⟩;obtain ⟨y,hy0⟩:∃ y,g m=y:=⟨_,rfl⟩;have hx:=hgm n hlt;have hy:=hgm m hm;rw [hx0] at hx;rw [hy0] at hy;have ah:=h.hcore _ hx.1;have ai:=h.hcore _ hy.1;have aj:=ai.ends hy.2;have main:∀ (X:Int),X=(if n+1=ne.length then p else 0)→0≤X→X≤p→∃ b,Ev (fun k=>if (lQ x)≥(wq (lu y+X)) then some false else dK.l1 (some false) (some true) ne ne (ne.length:Int) p k ((n+1:Nat):Int)) b∧(b=true↔∀ j,j<ne.length→Q j):=by
        intro X hX hX0 hX1;rw [iX (n:=lu y+X) (by omega) (by omega)];by_cases hb:lQ x≥lu y+X
        · refine ⟨false,Ev.yes hb (Ev.now _),(fun e=>by cases e),fun hq => ?_⟩
          have:=hq n hlt;simp only [hQ] at this;rw [hm0,hx0,hy0,← hX] at this;omega
        · obtain ⟨b,b1,b2⟩:=ih (n+1) (by omega) (by omega) (fun j hjn=>by
            rcases Nat.lt_or_ge j n with q | q
            · exact h1 j q
            · have:j=n:=by omega
              subst this;rw [hQ];simp only;rw [hm0,hx0,hy0,← hX];omega)
          exact ⟨b,Ev.no hb b1,b2⟩
      obtain ⟨l1,l2,l3⟩:=agm _ hx.2 ah.uD;obtain ⟨f1,f2⟩:=agl _ hy.2;have e0:wq ((n:Int)+1)=((n+1:Nat):Int):=by clear l1 l2 l3 f2;rw [iX (by omega) (by omega)];simp
      have e1:Int.tmod ((n+1:Nat):Int) (ne.length:Int)=(m:Int):=by
        have e2:(((n+1) % ne.length:Nat):Int)=((n+1:Nat):Int) % (ne.length:Int):=Int.natCast_emod _ _;rw [hm0] at e2;exact (Int.tmod_eq_emod_of_nonneg (Int.natCast_nonneg _)).trans e2.symm
      have r1:gL ne (n:Int)=x:=by rw [hgr,hx0]
      have r2:gL ne (m:Int)=y:=by rw [hgr,hy0]
      have q7:((x.length:Int) - 1)<(x.length:Int):=Int.sub_lt_self _ (by decide);have q8:(0:Int)<(y.length:Int):=Int.ofNat_lt.mpr f1;by_cases hlast:n+1=ne.length
      · have q6:((n+1:Nat):Int)=(ne.length:Int):=by rw [hlast]
        obtain ⟨b,b1,b2⟩:=main p (by rw [if_pos hlast]) hp0 (Int.le_refl _);refine ⟨b,Ev.step (fun k => ?_) b1,b2⟩;simp only [dK.l1,dK.l1T,decide_eq_true_eq];rw [if_pos q1,if_pos q2,if_pos q1,if_neg q3,e0,e1,if_pos q4,if_pos q5,if_pos q6,r1,r2,l1,if_pos l2,if_pos q7,if_pos q8,l3,f2]
      · obtain ⟨b,b1,b2⟩:=main 0 (by rw [if_neg hlast]) (Int.le_refl _) hp0
        refine ⟨b,Ev.step (fun k => ?_) b1,b2⟩;have q6:¬ ((n+1:Nat):Int)=(ne.length:Int):=fun e=>hlast (Int.ofNat.inj e);simp only [dK.l1,dK.l1T,decide_eq_true_eq];rw [if_pos q1,if_pos q2,if_pos q1,if_neg q3,e0,e1,if_pos q4,if_pos q5,if_neg q6,r1,r2,l1,if_pos l2,if_pos q7,if_pos q8,l3,f2]
  have fin:(∀ j,j<ne.length→Q j)↔TF p core:=by
    rw [hQ];simp only;constructor
    · intro hj
      have aa:∀ j,j<ne.length→lu (g j)≤lQ (g j):=fun j hj2=>((h.hcore _ (hgm j hj2).1).ends (hgm j hj2).2).2.1;have ab:∀ j,j+1<ne.length→lQ (g j)<lu (g (j+1)):=fun j hj1=>by
        have:=hj j (by omega);rw [Nat.mod_eq_of_lt hj1,if_neg (by omega)] at this;omega
      have ac:∀ (d i j:Nat),j<ne.length→j - i=d→i<j→lQ (g i)<lu (g j):=by
        intro d;induction d with
        | zero=>intro i j hj2 hd hij;omega
        | succ d ih =>
          intro i j hj2 hd hij;by_cases af:i+1=j
          · subst af;exact ab i hj2
          · have a1:=ab i (by omega)
            have a2:=ih (i+1) j hj2 (by omega) (by omega);have a3:=aa (i+1) (by omega);omega
      have hmono:∀ i j,j<ne.length→i≤j→lu (g i)≤lu (g j)∧lQ (g i)≤lQ (g j):=by
        intro i j hj2 hij;rcases Nat.lt_or_ge i j with q | q
        · have a1:=ac _ i j hj2 rfl q
          have a2:=aa i (by omega);have a3:=aa j hj2;omega
        · have:i=j:=by omega
          subst this;omega
      constructor
      · have hpw:ne.Pairwise (fun a b=>lQ a<lu b):=List.pairwise_iff_getElem.2 (fun i j hi hj2 hij=>by rw [hget i hi,hget j hj2];exact ac _ i j hj2 rfl hij)
        rw [← hne] at hpw;unfold neL at hpw;rw [List.pairwise_filter] at hpw;exact hpw.imp (fun hx ha hb=>hx (by simpa using ha) (by simpa using hb))
      · intro a ha b hb hna hnb
        obtain ⟨i,hi,rfl⟩:=List.getElem_of_mem (show a∈ne by rw [← hne];exact xU.2 ⟨ha,hna⟩);obtain ⟨j,hj2,rfl⟩:=List.getElem_of_mem (show b∈ne by rw [← hne];exact xU.2 ⟨hb,hnb⟩);rw [hget i hi,hget j hj2];have hz:=hj (ne.length - 1) (by omega);have e:(ne.length - 1+1) % ne.length=0:=by rw [Nat.sub_add_cancel (by omega)];exact Nat.mod_self _
        rw [e,if_pos (by omega)] at hz;have a1:=(hmono i (ne.length - 1) (by omega) (by omega)).2;have a2:=(hmono 0 j hj2 (by omega)).1;omega
    · intro t j hj
      have hpw:ne.Pairwise (fun a b=>lQ a<lu b):=by
        rw [← hne];unfold neL;rw [List.pairwise_filter];exact t.ta.imp (fun hx ha hb=>hx (by simpa using ha) (by simpa using hb))
      by_cases e:j+1=ne.length
      · rw [if_pos e]
        have e2:(j+1) % ne.length=0:=by rw [e];exact Nat.mod_self _
        rw [e2];exact t.tb _ (hgm j hj).1 _ (hgm 0 (by omega)).1 (hgm j hj).2 (hgm 0 (by omega)).2
      · rw [if_neg e,Nat.mod_eq_of_lt (by omega:j+1<ne.length)]
        have:=List.pairwise_iff_getElem.1 hpw j (j+1) hj (by omega) (by omega);rw [hget j hj,hget (j+1) (by omega)] at this;omega
  have k0:∀ (rest pre:List (List Sp)),core=pre++rest→∀ (Y:Nat→List (List Sp)→Option Bool) (b:Bool),Ev (fun k=>Y k ne) b→Ev (fun k=>dK.l0 (Y k) core (core.length:Int) k (neL pre) (pre.length:Int)) b:=by
    intro rest;induction rest with
    | nil =>
      intro pre hp Y b hY;rw [List.append_nil] at hp;refine Ev.step (fun k=>rfl) ?_;have c1:¬ (pre.length:Int)<(core.length:Int):=by rw [hp];omega
      simp only [dK.l0,dK.l0T,decide_eq_true_eq,c1,if_false];rw [← hp,hne];exact Ev.shift hY
    | cons l r ih =>
      intro pre hp Y b hY;have hlen:pre.length+1≤core.length:=by rw [hp];simp
      have hrd:gL core (pre.length:Int)=l:=by rw [hp];simp [gL]
      have c1:(pre.length:Int)<(core.length:Int):=by omega
      have c2:(0:Int)≤(pre.length:Int):=by omega
      have hw:=nx c1 c2 (by omega);have b1:=ih (pre++[l]) (by rw [hp];simp) (fun k=>Y (k+1)) b (Ev.shift hY);have hnp:(neL pre).length≤pre.length:=List.length_filter_le _ _;refine Ev.step (fun k=>rfl) ?_;simp only [dK.l0,dK.l0T,decide_eq_true_eq,c1,c2,if_true,hrd,hw];rw [adu,← len1] at b1;by_cases hz:l=[]
      · rw [if_pos hz] at b1
        exact Ev.no (by rw [hz];simp) b1
      · rw [if_neg hz] at b1
        have:0<l.length:=List.length_pos_iff.2 hz;exact Ev.yes (by omega) (Ev.yes (by omega) b1)
  obtain ⟨b,b1,b2⟩:=k1 _ 0 rfl (by omega) (fun j hj=>by omega);exact ⟨b,k0 core [] rfl (fun k y=>dK.l1 (some false) (some true) y y (y.length:Int) p k 0) b b1,b2.trans fin⟩
theorem ab2 (h:SF p c core odd) (i:Int) (hi:inR i):∃ b,Ev (fun k=>iT.f k p c core odd i) b∧(b=true↔Bes p c core odd i):=by
  have hi':=hi;unfold inR at hi';obtain ⟨lo,lo1,lo2⟩:=ab1 h i (by omega);obtain ⟨up,aa,ah⟩:=ab0 h i (by omega);have hah:∀ k j m,fF.f k (jJ p c core odd j).1 m=some (jE (jJ p c core odd j).1 m):=fun k j m=>abU _ _ _ (kg h j);have ai:∀ k (m:List Sp),fF.f k ([]:List Sp) m=some true:=fun k m=>by rw [abU _ _ _ (by simp)];simp [jE]
  have aj:=aay;have hup:up.2=true→∀ k,i<k→inR k→fs c core odd k≠[]→gap c core odd i k→k=up.1:=by
    intro e k h1 h2 h3 h4;obtain ⟨a1,a2,a3,a4⟩:=ah.1 e;unfold inR at h2 a2;rcases Int.lt_trichotomy k up.1 with g | g | g
    · exact absurd (a4 k (by omega) g) h3
    · exact g
    · exact absurd (h4 up.1 (by omega) g) a3
  have af:up.2=false→∀ k,i<k→inR k→fs c core odd k≠[]→False:=by
    intro e k h1 h2 h3;obtain ⟨_,a4⟩:=ah.2 e;have h2':=h2;unfold inR at h2';exact h3 (a4 k (by omega) h2)
  have ak:up.2=true→i<up.1∧inR up.1∧fs c core odd up.1≠[]∧gap c core odd i up.1:=fun e=>by
    obtain ⟨a1,a2,a3,a4⟩:=ah.1 e;exact ⟨by omega,a2,a3,fun m h1 h2=>a4 m (by unfold inR at a2;omega) h2⟩
  have hdn:lo.2=true→∀ k,k<i→inR k→fs c core odd k≠[]→gap c core odd k i→k=lo.1:=by
    intro e k h1 h2 h3 h4;obtain ⟨a1,a2,a3,a4⟩:=lo2.1 e;unfold inR at h2 a2;rcases Int.lt_trichotomy k lo.1 with g | g | g
    · exact absurd (h4 lo.1 g (by omega)) a3
    · exact g
    · exact absurd (a4 k (by omega) g) h3
  have ab:lo.2=false→∀ k,k<i→inR k→fs c core odd k≠[]→False:=by
    intro e k h1 h2 h3;obtain ⟨_,a4⟩:=lo2.2 e;have h2':=h2;unfold inR at h2';exact h3 (a4 k (by omega) h2)
  have am:lo.2=true→lo.1<i∧inR lo.1∧fs c core odd lo.1≠[]∧gap c core odd lo.1 i:=fun e=>by
    obtain ⟨a1,a2,a3,a4⟩:=lo2.1 e;exact ⟨by omega,a2,a3,fun m h1 h2=>a4 m (by unfold inR at a2;omega) h1⟩
  have wrong:∀ {P:Prop},false=true→P:=fun e=>by cases e
  simp only [iT.f,Bool.not_eq_true',decide_eq_false_iff_not];by_cases h0:(jJ p c core odd i).2=0
  case neg=>exact ⟨false,Ev.bind (jV h i) (Ev.yes h0 (Ev.now _)),wrong,fun b=>(h0 b.he).elim⟩
  by_cases hlo:lo.2=true
  · obtain ⟨n1,n2,n3,n4⟩:=am hlo
    by_cases h1:(jJ p c core odd lo.1).2=0
    case neg=>exact ⟨false,Ev.bind (jV h i) (Ev.no (fun q=>q h0) (Ev.bind lo1 (Ev.bind aa (Ev.yes hlo (Ev.bind (jV h lo.1) (Ev.yes h1 (Ev.now _))))))),wrong,fun b=>(h1 (b.dn _ n1 n2 n3 n4).1).elim⟩
    by_cases hu:up.2=true
    · obtain ⟨m1,m2,m3,m4⟩:=ak hu
      by_cases h2:(jJ p c core odd up.1).2=0
      case neg=>exact ⟨false,Ev.bind (jV h i) (Ev.no (fun q=>q h0) (Ev.bind lo1 (Ev.bind aa (Ev.yes hlo (Ev.bind (jV h lo.1) (Ev.no (fun q=>q h1) (Ev.yes hu (Ev.bind (jV h up.1) (Ev.yes h2 (Ev.now _))))))))))
        , wrong,fun b=>(h2 (b.up _ m1 m2 m3 m4).1).elim⟩
      refine ⟨jE (jJ p c core odd lo.1).1 (jJ p c core odd i).1&&(jE (jJ p c core odd i).1 (jJ p c core odd up.1).1&&jE (jJ p c core odd lo.1).1 (jJ p c core odd up.1).1),Ev.bind (jV h i) (Ev.no (fun q=>q h0) (Ev.bind lo1 (Ev.bind aa (Ev.yes hlo (Ev.bind (jV h lo.1) (Ev.no (fun q=>q h1) (Ev.yes hu (Ev.bind (jV h up.1) (Ev.no (fun q=>q h2) ?_))))))))),?_⟩
      · simp only [hah,Option.bind_some]
        cases jE (jJ p c core odd lo.1).1 (jJ p c core odd i).1 <;> cases jE (jJ p c core odd i).1 (jJ p c core odd up.1).1 <;> simp <;> exact Ev.now _
      · simp only [Bool.and_eq_true]
        exact ⟨fun ⟨e1,e2,e3⟩=>⟨h0,fun k a b c' d=>by have:=hup hu k a b c' d;subst this;exact ⟨h2,e2⟩,fun k a b c' d=>by have:=hdn hlo k a b c' d;subst this;exact ⟨h1,e1⟩,fun j k a b c' d e f g q=>by have:=hup hu k b d f q;subst this;have:=hdn hlo j a c' e g;subst this;exact e3⟩,
          fun b=>⟨(b.dn _ n1 n2 n3 n4).2,(b.up _ m1 m2 m3 m4).2,b.ov _ _ n1 m1 n2 m2 n3 m3 n4 m4⟩⟩
    · refine ⟨jE (jJ p c core odd lo.1).1 (jJ p c core odd i).1,Ev.bind (jV h i) (Ev.no (fun q=>q h0) (Ev.bind lo1 (Ev.bind aa (Ev.yes hlo (Ev.bind (jV h lo.1) (Ev.no (fun q=>q h1) (Ev.no hu ?_))))))),?_⟩
      · simp only [hah,aj,Option.bind_some]
        cases jE (jJ p c core odd lo.1).1 (jJ p c core odd i).1 <;> exact Ev.now _
      · have hu':up.2=false:=by simpa using hu
        exact ⟨fun e1=>⟨h0,fun k a b c' d=>(af hu' k a b c').elim,fun k a b c' d=>by have:=hdn hlo k a b c' d;subst this;exact ⟨h1,e1⟩,fun j k a b c' d e f g q=>(af hu' k b d f).elim⟩,fun b=>(b.dn _ n1 n2 n3 n4).2⟩
  · have ac:lo.2=false:=by simpa using hlo
    by_cases hu:up.2=true
    · obtain ⟨m1,m2,m3,m4⟩:=ak hu
      by_cases h2:(jJ p c core odd up.1).2=0
      case neg=>exact ⟨false,Ev.bind (jV h i) (Ev.no (fun q=>q h0) (Ev.bind lo1 (Ev.bind aa (Ev.no hlo (Ev.yes hu (Ev.bind (jV h up.1) (Ev.yes h2 (Ev.now _)))))))),wrong,fun b=>(h2 (b.up _ m1 m2 m3 m4).1).elim⟩
      refine ⟨jE (jJ p c core odd i).1 (jJ p c core odd up.1).1,Ev.bind (jV h i) (Ev.no (fun q=>q h0) (Ev.bind lo1 (Ev.bind aa (Ev.no hlo (Ev.yes hu (Ev.bind (jV h up.1) (Ev.no (fun q=>q h2) ?_))))))),?_⟩
      · simp only [hah,ai,Option.bind_some]
        cases jE (jJ p c core odd i).1 (jJ p c core odd up.1).1 <;> exact Ev.now _
      · exact ⟨fun e2=>⟨h0,fun k a b c' d=>by have:=hup hu k a b c' d;subst this;exact ⟨h2,e2⟩,fun k a b c' d=>(ab ac k a b c').elim,fun j k a b c' d e f g q=>(ab ac j a c' e).elim⟩,fun b=>(b.up _ m1 m2 m3 m4).2⟩
    · have hu':up.2=false:=by simpa using hu
      refine ⟨true,Ev.bind (jV h i) (Ev.no (fun q=>q h0) (Ev.bind lo1 (Ev.bind aa (Ev.no hlo (Ev.no hu ?_))))),fun _=>⟨h0,fun k a b c' d=>(af hu' k a b c').elim,fun k a b c' d=>(ab ac k a b c').elim,fun j k a b c' d e f g q=>(ab ac j a c' e).elim⟩,fun _=>rfl⟩;simp only [hah,ai,aj,Option.bind_some];exact Ev.now _
theorem ae5 (hl:core.length≤6000) (hlo:odd.length≤6000):∃ n,Ev (fun k=>dS.f k p c core odd) n∧(lM core odd≤9223372036854775807→n=lM core odd):=by
  have k1:∀ (rest pre:List Gn),odd=pre++rest→∀ x:Int,∃ n,Ev (fun k=>dS.l1 (fun y=>some y) odd (odd.length:Int) k x (pre.length:Int)) n∧(0≤x→x+(rest.map fun g=>(g.f1.length:Int)).sum≤9223372036854775807→n=x+(rest.map fun g=>(g.f1.length:Int)).sum):=by
    intro rest;induction rest with
    | nil =>
      intro pre hp x;have c1:¬ (pre.length:Int)<(odd.length:Int):=by rw [hp];simp
      exact ⟨x,Ev.step (f:=fun _=>some x) (fun k=>by simp only [dS.l1,dS.l1T,decide_eq_true_eq,c1,if_false]) (Ev.now _),fun _ _=>by simp⟩
    | cons g r ih =>
      intro pre hp x;have hlen:pre.length+1≤odd.length:=by rw [hp];simp
      have hrd:gG odd (pre.length:Int)=g:=by rw [hp];simp [gG]
      have c1:(pre.length:Int)<(odd.length:Int):=by omega
      have c2:(0:Int)≤(pre.length:Int):=by omega
      have hw:=nx c1 c2 (by omega);obtain ⟨n,n1,n2⟩:=ih (pre++[g]) (by rw [hp];simp) (wq (x+(g.f1.length:Int)));rw [← len1] at n1;refine ⟨n,Ev.step (fun k=>rfl) ?_,fun h0 h1 => ?_⟩
      · simp only [dS.l1,dS.l1T,decide_eq_true_eq,c1,c2,if_true,hrd,hw]
        exact n1
      · have h2:0≤(r.map fun g=>(g.f1.length:Int)).sum:=oG (fun x hx=>by obtain ⟨a,_,rfl⟩:=List.mem_map.1 hx;omega)
        rw [List.map_cons,List.sum_cons] at h1 ⊢;rw [iX (by omega) (by omega)] at n2;rw [n2 (by omega) (by omega)];omega
  have k0:∀ (rest pre:List (List Sp)),core=pre++rest→∀ (Y:Nat→Int→Option Int) (x:Int),(∀ x,∃ n,Ev (fun k=>Y k x) n∧(0≤x→x+(odd.map fun g=>(g.f1.length:Int)).sum≤9223372036854775807→n=x+(odd.map fun g=>(g.f1.length:Int)).sum)) →
      ∃ n,Ev (fun k=>dS.l0 (Y k) core (core.length:Int) k x (pre.length:Int)) n∧(0≤x→x+(rest.map fun l=>(l.length:Int)).sum+(odd.map fun g=>(g.f1.length:Int)).sum≤9223372036854775807→n=x+(rest.map fun l=>(l.length:Int)).sum+(odd.map fun g=>(g.f1.length:Int)).sum):=by
    intro rest;induction rest with
    | nil =>
      intro pre hp Y x hY;obtain ⟨n,n1,n2⟩:=hY x;have c1:¬ (pre.length:Int)<(core.length:Int):=by rw [hp];simp
      refine ⟨n,Ev.step (fun k=>rfl) ?_,fun h0 h1=>by simp at h1 ⊢;exact n2 h0 h1⟩;simp only [dS.l0,dS.l0T,decide_eq_true_eq,c1,if_false];exact Ev.shift n1
    | cons l r ih =>
      intro pre hp Y x hY;have hlen:pre.length+1≤core.length:=by rw [hp];simp
      have hrd:gL core (pre.length:Int)=l:=by rw [hp];simp [gL]
      have c1:(pre.length:Int)<(core.length:Int):=by omega
      have c2:(0:Int)≤(pre.length:Int):=by omega
      have hw:=nx c1 c2 (by omega);obtain ⟨n,n1,n2⟩:=ih (pre++[l]) (by rw [hp];simp) (fun k=>Y (k+1)) (wq (x+(l.length:Int))) (fun x=>let ⟨n,a,b⟩:=hY x;⟨n,Ev.shift a,b⟩);rw [← len1] at n1;refine ⟨n,Ev.step (fun k=>rfl) ?_,fun h0 h1 => ?_⟩
      · simp only [dS.l0,dS.l0T,decide_eq_true_eq,c1,c2,if_true,hrd,hw]
        exact n1
      · have h2:0≤(r.map fun l=>(l.length:Int)).sum:=oG (fun x hx=>by obtain ⟨a,_,rfl⟩:=List.mem_map.1 hx;omega)
        have h3:0≤(odd.map fun g=>(g.f1.length:Int)).sum:=oG (fun x hx=>by obtain ⟨a,_,rfl⟩:=List.mem_map.1 hx;omega);rw [List.map_cons,List.sum_cons] at h1 ⊢;rw [iX (by omega) (by omega)] at n2;rw [n2 (by omega) (by omega)];omega
  obtain ⟨n,n1,n2⟩:=k0 core [] rfl (fun k y=>dS.l1 (fun y=>some y) odd (odd.length:Int) k y 0) 0 (fun x=>k1 odd [] rfl x);refine ⟨n,n1,fun h => ?_⟩;unfold lM at h ⊢;rw [n2 (by omega) (by omega)];omega
theorem mM (m:MF core odd) (hl:core.length≤6000) (hlo:odd.length≤6000):∃ n,(Ev (fun k=>dS.f k p c core odd) n∧(lM core odd≤9223372036854775807→n=lM core odd))∧∃ e,Ev (fun k=>dI.f k p c core odd) e∧(e=0∨e=3∨e=50)∧(e=3↔n>60000)∧(e=0↔n≤60000∧GR p c core odd):=by
  obtain ⟨n,n1,n2⟩:=ae5 (p:=p) (c:=c) hl hlo;refine ⟨n,⟨n1,n2⟩,?_⟩;obtain ⟨sh,ab,ac⟩:=adv (p:=p) (c:=c) m hl hlo;have z1:¬ decide ((core.length:Int)>6000)=true:=by simp;omega
  have z2:¬ decide ((odd.length:Int)>6000)=true:=by simp;omega
  simp only [dI.f,dI.l0];by_cases hn:n>60000
  · exact ⟨3,Ev.no z1 (Ev.no z2 (Ev.bind n1 (Ev.yes (by simpa using hn) (Ev.now _)))),.inr (.inl rfl),⟨fun _=>hn,fun _=>rfl⟩,⟨fun e=>by omega,fun ⟨e,_⟩=>by omega⟩⟩
  have z3:¬ decide (n>60000)=true:=by simpa using hn
  have bad:∀ {q:Prop},¬ q→(50:Int)=0∨(50:Int)=3∨(50:Int)=50∧True→((50:Int)=0∨(50:Int)=3∨(50:Int)=50)∧((50:Int)=3↔n>60000)∧((50:Int)=0↔n≤60000∧q):=fun hq _=>⟨.inr (.inr rfl),⟨fun e=>by omega,fun e=>by omega⟩,⟨fun e=>by omega,fun ⟨_,e⟩=>(hq e).elim⟩⟩;by_cases hs:sh=true
  case neg=>exact ⟨50,Ev.no z1 (Ev.no z2 (Ev.bind n1 (Ev.no z3 (Ev.bind ab (Ev.yes (by simpa using hs) (Ev.now _)))))),bad (fun q=>hs (ac.2 q.s)) (.inr (.inr ⟨rfl,trivial⟩))⟩
  have aa:=ac.1 hs;obtain ⟨tu,af,ah⟩:=adw aa;by_cases ht:tu=true
  case neg=>exact ⟨50,Ev.no z1 (Ev.no z2 (Ev.bind n1 (Ev.no z3 (Ev.bind ab (Ev.no (by simp [hs]) (Ev.bind af (Ev.yes (by simpa using ht) (Ev.now _)))))))),bad (fun q=>ht (ah.2 q.t)) (.inr (.inr ⟨rfl,trivial⟩))⟩
  have ai:=ah.1 ht;have loop:∀ (rest pre:List Gn),odd=pre++rest→∃ e:Int,Ev (fun k=>dI.l1 (some (50:Int)) (some (0:Int)) odd (odd.length:Int) p c core odd k (pre.length:Int)) e∧(e=0∨e=50)∧(e=0↔∀ g∈rest,Bes p c core odd g.f0):=by
    intro rest;induction rest with
    | nil =>
      intro pre hp;have c1:¬ (pre.length:Int)<(odd.length:Int):=by rw [hp];simp
      exact ⟨0,Ev.step (f:=fun _=>some 0) (fun k=>by simp only [dI.l1,dI.l1T,decide_eq_true_eq,c1,if_false]) (Ev.now _),.inl rfl,by simp⟩
    | cons g r ih =>
      intro pre hp;have hlen:pre.length+1≤odd.length:=by rw [hp];simp
      have hrd:gG odd (pre.length:Int)=g:=by rw [hp];simp [gG]
      have c1:(pre.length:Int)<(odd.length:Int):=by omega
      have c2:(0:Int)≤(pre.length:Int):=by omega
      have hw:=nx c1 c2 (by omega);obtain ⟨b,b1,b2⟩:=ab2 aa g.f0 (aa.hidx _ (by rw [hp];simp));by_cases hb:b=true
      · obtain ⟨e,e1,e2,e3⟩:=ih (pre++[g]) (by rw [hp];simp)
        rw [← len1] at e1;refine ⟨e,Ev.step (fun k=>rfl) ?_,e2,by simp [e3,b2.1 hb]⟩;simp only [dI.l1,dI.l1T,decide_eq_true_eq,c1,c2,if_true,hrd,hw];exact Ev.bind b1 (Ev.no (by simp [hb]) e1)
      · refine ⟨50,Ev.step (fun k=>rfl) ?_,.inr rfl,(fun e=>by omega),fun q=>(hb (b2.2 (q g (by simp)))).elim⟩
        simp only [dI.l1,dI.l1T,decide_eq_true_eq,c1,c2,if_true,hrd,hw];exact Ev.bind b1 (Ev.yes (by simpa using hb) (Ev.now _))
  obtain ⟨e,e1,e2,e3⟩:=loop odd [] rfl;refine ⟨e,Ev.no z1 (Ev.no z2 (Ev.bind n1 (Ev.no z3 (Ev.bind ab (Ev.no (by simp [hs]) (Ev.bind af (Ev.no (by simp [ht]) e1))))))),by omega,⟨fun q=>by omega,fun q=>by omega⟩,fun q=>⟨by omega,aa,ai,e3.1 q⟩,fun q=>e3.2 q.2.b⟩
end Go.Proofs.YtcomnjodjijcmaaGreat.Q

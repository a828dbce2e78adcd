/- Lemmas for laws of chapter 7: what the functions that they reach compute. No condition of its own. -/
import Derived.Test.YtongeknogcboiaaGreatYT20
import Derived.Test.YtongeknogcboiaaGreatYT19
namespace Go.Proofs.YtongeknogcboiaaGreat.Q
set_option linter.unusedVariables false
set_option linter.unusedSimpArgs false
open Go.RowKit Go.Proofs.YtongeknogcboiaaGreatW.gq Go.Proofs.YtongeknogcboiaaGreatW.iR M R P
section
variable {p c:Int} {core:List (List Sp)} {odd:List Gn}
def NxU (p c:Int) (core:List (List Sp)) (odd:List Gn) (i:Int) (r:Int × Bool):Prop :=
  (r.2=true→Ex p c core odd r.1∧i<r.1∧∀ m,Ex p c core odd m→i<m→r.1≤m)∧(r.2=false→r.1=0∧∀ m,Ex p c core odd m→m≤i)
def NxD (p c:Int) (core:List (List Sp)) (odd:List Gn) (i:Int) (r:Int × Bool):Prop :=
  (r.2=true→Ex p c core odd r.1∧r.1<i∧∀ m,Ex p c core odd m→m<i→m≤r.1)∧(r.2=false→r.1=0∧∀ m,Ex p c core odd m→i≤m)
def thV (p c:Int) (core:List (List Sp)) (odd:List Gn) (i:Int):List Sp:=(mR p c core odd i).1
theorem o9 (h:FOK p c core odd) {i j k:Int} (hi:Ex p c core odd i) (hk:Ex p c core odd k) (h1:i≤j) (h2:j≤k) (hr:inR j) (hn:fs c core odd j≠[]):Ex p c core odd j:=by
  rcases Int.lt_or_le i j with g | g
  · rcases Int.lt_or_le j k with q | q
    · have a:=h.ord i j g hi.r hr hi.n hn
      have b:=h.ord j k q hr hk.r hn hk.n;have:=hi.lo;have:=hk.hi;have:=h.s.mM hi.n;have:=h.s.mM hk.n;exact ⟨hr,hn,by omega,by omega⟩
    · have:j=k:=by omega
      rw [this];exact hk
  · have:j=i:=by omega
    rw [this];exact hi
theorem lq (h:SF p c core odd) (i:Int):(Ex p c core odd i∧mR p c core odd i=(gT p c core odd i,0)∧gT p c core odd i≠[])∨(¬ Ex p c core odd i∧(mR p c core odd i).1=[]):=by
  by_cases e:Ex p c core odd i
  · exact .inl ⟨e,h.lu e,(mO e.n).1⟩
  · refine .inr ⟨e,?_⟩
    by_cases hn:fs c core odd i=[]
    · unfold mR;split
      · simp [hn]
      · rfl
    · rw [h.vY hn e]
theorem abh (k:Nat):@gQ.f wtT (k+100)=some true:=by kernel_rfl
end
variable [Inhabited WT]
variable {p c:Int} {core:List (List Sp)} {odd:List Gn}
theorem acS (h:FOK p c core odd):∃ a b,Ev (fun k=>kK.f k p c core odd) (a.1,b.1,a.2)∧FrU p c core odd (-1099511627776) a∧TlD p c core odd 1099511627776 b∧(a.2=true→b.2=true):=by
  obtain ⟨a,a1,a2⟩:=wE h (-1099511627776);obtain ⟨b,b1,b2⟩:=acR h 1099511627776;refine ⟨a,b,?_,a2,b2,fun e => ?_⟩
  · unfold kK.f
    exact Ev.bind a1 (Ev.bind b1 (Ev.now _))
  · obtain ⟨q1,_,_⟩:=a2.y e
    cases hb:b.2 with
    | true=>rfl
    | false =>
      have:=h.s.mM q1.n;have:=q1.hi;exact absurd (show gLo p c core odd a.1≤1099511627776 by omega) ((b2.n hb).2 _ q1)
theorem afT (h:FOK p c core odd) (i:Int) (hi : -9223372036854775808≤i∧i≤9223372036854775807):∃ r,Ev (fun k=>jY.f k p c core odd i) r∧NxU p c core odd i r:=by
  obtain ⟨a,b,ab,a2,b2,hab⟩:=acS h;simp only [jY.f,decide_eq_true_eq];have all:∀ m,Ex p c core odd m→a.2=true∧b.2=true∧a.1≤m∧m≤b.1:=fun m hm=>by
    have l1:=h.s.mM hm.n;have l2:=hm.lo;have l3:=hm.hi;have e1:a.2=true:=by
      cases ha:a.2 with
      | true=>rfl
      | false=>exact absurd (show -1099511627776≤gHi p c core odd m by omega) ((a2.n ha).2 m hm)
    exact ⟨e1,hab e1,(a2.y e1).2.2 m hm (by omega),(b2.y (hab e1)).2.2 m hm (by omega)⟩
  cases ha:a.2 with
  | false=>exact ⟨(0,false),Ev.bind ab (Ev.yes (by simp [ha]) (Ev.now _)),(fun e=>by cases e),fun _=>⟨rfl,fun m hm=>by have:=(all m hm).1;rw [ha] at this;cases this⟩⟩
  | true =>
    have hb:=hab ha;obtain ⟨x1,x2,x3⟩:=a2.y ha;obtain ⟨y1,y2,y3⟩:=b2.y hb;by_cases c1:i≥b.1
    · exact ⟨(0,false),Ev.bind ab (Ev.no (by simp [ha]) (Ev.yes c1 (Ev.now _))),(fun e=>by cases e),fun _=>⟨rfl,fun m hm=>by have:=all m hm;omega⟩⟩
    · by_cases c2:i<a.1
      · exact ⟨(a.1,true),Ev.bind ab (Ev.no (by simp [ha]) (Ev.no c1 (Ev.yes c2 (Ev.now _)))),fun _=>⟨x1,c2,fun m hm _=>(all m hm).2.2.1⟩,fun e=>by cases e⟩
      · obtain ⟨r,r1,r2⟩:=oL h.s i hi
        have ar:=x1.r;have br:=y1.r;unfold inR at ar br;cases hr:r.2 with
        | false=>exact absurd ((r2.2 hr).2 b.1 (by omega) y1.r) y1.n
        | true =>
          obtain ⟨q1,q2,q3,q4⟩:=r2.1 hr;have q5:r.1≤b.1:=Classical.byContradiction fun hx=>y1.n (q4 b.1 (by omega) (by omega));refine ⟨r,Ev.bind ab (Ev.no (by simp [ha]) (Ev.no c1 (Ev.no c2 (Ev.bind (f:=fun _ a=>some (a.1,a.2)) r1 (Ev.now _))))),fun _=>⟨o9 h x1 y1 (by omega) q5 q2 q3,by omega,fun m hm hm2=>Classical.byContradiction fun hx=>hm.n (q4 m ?_ (by omega))⟩,fun e=>by rw [hr] at e;cases e⟩;have:=hm.r;unfold inR at this;omega
theorem afU (h:FOK p c core odd) (i:Int) (hi : -9223372036854775808≤i∧i≤9223372036854775807):∃ r,Ev (fun k=>jZ.f k p c core odd i) r∧NxD p c core odd i r:=by
  obtain ⟨a,b,ab,a2,b2,hab⟩:=acS h;simp only [jZ.f,decide_eq_true_eq];have all:∀ m,Ex p c core odd m→a.2=true∧b.2=true∧a.1≤m∧m≤b.1:=fun m hm=>by
    have l1:=h.s.mM hm.n;have l2:=hm.lo;have l3:=hm.hi;have e1:a.2=true:=by
      cases ha:a.2 with
      | true=>rfl
      | false=>exact absurd (show -1099511627776≤gHi p c core odd m by omega) ((a2.n ha).2 m hm)
    exact ⟨e1,hab e1,(a2.y e1).2.2 m hm (by omega),(b2.y (hab e1)).2.2 m hm (by omega)⟩
  cases ha:a.2 with
  | false=>exact ⟨(0,false),Ev.bind ab (Ev.yes (by simp [ha]) (Ev.now _)),(fun e=>by cases e),fun _=>⟨rfl,fun m hm=>by have:=(all m hm).1;rw [ha] at this;cases this⟩⟩
  | true =>
    have hb:=hab ha;obtain ⟨x1,x2,x3⟩:=a2.y ha;obtain ⟨y1,y2,y3⟩:=b2.y hb;by_cases c1:i≤a.1
    · exact ⟨(0,false),Ev.bind ab (Ev.no (by simp [ha]) (Ev.yes c1 (Ev.now _))),(fun e=>by cases e),fun _=>⟨rfl,fun m hm=>by have:=all m hm;omega⟩⟩
    · by_cases c2:i>b.1
      · exact ⟨(b.1,true),Ev.bind ab (Ev.no (by simp [ha]) (Ev.no c1 (Ev.yes c2 (Ev.now _)))),fun _=>⟨y1,c2,fun m hm _=>(all m hm).2.2.2⟩,fun e=>by cases e⟩
      · obtain ⟨r,r1,r2⟩:=oM h.s i hi
        have ar:=x1.r;have br:=y1.r;unfold inR at ar br;cases hr:r.2 with
        | false=>exact absurd ((r2.2 hr).2 a.1 (by omega) x1.r) x1.n
        | true =>
          obtain ⟨q1,q2,q3,q4⟩:=r2.1 hr;have q5:a.1≤r.1:=Classical.byContradiction fun hx=>x1.n (q4 a.1 (by omega) (by omega));refine ⟨r,Ev.bind ab (Ev.no (by simp [ha]) (Ev.no c1 (Ev.no c2 (Ev.bind (f:=fun _ a=>some (a.1,a.2)) r1 (Ev.now _))))),fun _=>⟨o9 h x1 y1 q5 (by omega) q2 q3,by omega,fun m hm hm2=>Classical.byContradiction fun hx=>hm.n (q4 m ?_ (by omega))⟩,fun e=>by rw [hr] at e;cases e⟩;have:=hm.r;unfold inR at this;omega
theorem mP (h:SF p c core odd) (i:Int):Ev (fun k=>jq.f k p c core odd i) (thV p c core odd i):=by
  unfold jq.f;exact Ev.bind (mE h i) (Ev.now _)
theorem acT (h:SF p c core odd) (i:Int):∃ q,Ev (fun k=>jO.f k p c core odd i) q∧(q.2=true→Ex p c core odd i∧q.1.f0=gLo p c core odd i∧q.1.f1=gHi p c core odd i)∧(q.2=false→¬ Ex p c core odd i∧q.1=⟨0,0⟩):=by
  have hl:=aaC h i;refine ⟨(⟨(qD (thV p c core odd i)).1,(qD (thV p c core odd i)).2.1⟩,(qD (thV p c core odd i)).2.2),?_,?_⟩
  · unfold jO.f
    refine Ev.bind (mP h i) ?_;simp only [aaA _ (thV p c core odd i) hl,Option.bind_some];exact Ev.now _
  · unfold thV
    rcases lq h i with ⟨e,e1,e2⟩ | ⟨e,e1⟩
    · rw [e1,vX]
      simp only [e2,if_false];exact ⟨fun _=>⟨e,(mO e.n).2.1,(mO e.n).2.2⟩,fun x=>by cases x⟩
    · rw [e1]
      exact ⟨fun x=>by simp [qD] at x,fun _=>⟨e,rfl⟩⟩
theorem qX:Ev (fun k=>gQ.f k) true:=⟨100,fun k hk=>by
  obtain ⟨j,rfl⟩:=Nat.exists_eq_add_of_le' hk;rename_i i;rw [ags i wtT];exact abh j⟩
end Go.Proofs.YtongeknogcboiaaGreat.Q
namespace Go.Proofs.YtongeknogcboiaaGreat.Q
set_option linter.unusedVariables false
set_option linter.unusedSimpArgs false
open Go.RowKit Go.Proofs.YtongeknogcboiaaGreatW.gq Go.Proofs.YtongeknogcboiaaGreatW.iR M R P
section
theorem acU (k:Nat) (a b x:Int):jX.f k a b x=some (if b<x then -1 else if a>x then 1 else 0):=by
  simp only [jX.f,decide_eq_true_eq];split
  · rfl
  · split <;> rfl
end
variable [Inhabited WT]
theorem ag5 (k:Nat) (l:List Sp) (i:Bool) (t:Int):jo.f k l i t=some (kQ l i t):=by
  cases l with
  | nil=>cases i <;> simp [jo.f,kQ]
  | cons s r =>
    have c0:(((s :: r).length:Int)>0):=by simp
    have c1:(0:Int)<((s :: r).length:Int):=by simp
    have c2:(1:Int)≤((s :: r).length:Int):=by simp;omega
    have hg:gS (s :: r) 0=s:=rfl;simp only [jo.f,decide_eq_true_eq,c0,c1,c2,if_true,hg,vv,List.drop_one,List.tail_cons];cases i with
    | true=>simp only [kQ,if_true];split <;> simp
    | false=>simp only [kQ];simp;split <;> rfl
theorem aaD (k:Nat) (l:List Sp) (i:Bool) (h:l≠[]):iO.f k l i=some (qH l i):=by
  cases l with
  | nil=>exact absurd rfl h
  | cons s r =>
    have c1:(0:Int)<((s :: r).length:Int):=by simp
    have hg:gS (s :: r) 0=s:=rfl;simp only [iO.f,c1,if_true,hg,vv];cases i <;> simp [qH]
def YY {γ:Type} (yes:Bool→Bool→Bool) (t:Int) (a b:Bool) (out:List Sp) (inn:Bool) (fr:Int) (x y:List Sp) (x0:List Sp→Bool→Int→List Sp→List Sp→Option γ):Option γ :=
  if yes a b=true then (if (!inn)=true then x0 out (yes a b) t x y else (if (!yes a b)=true then (if inn=true then (if out.length+1≤8796093022208 then x0 (out++[⟨fr,wq (t - 1)⟩]) (yes a b) fr x y else none) else x0 out (yes a b) fr x y) else x0 out (yes a b) fr x y))
  else (if (!yes a b)=true then (if inn=true then (if out.length+1≤8796093022208 then x0 (out++[⟨fr,wq (t - 1)⟩]) (yes a b) fr x y else none) else x0 out (yes a b) fr x y) else x0 out (yes a b) fr x y)
theorem zA {γ:Type} (yes:Bool→Bool→Bool) (t:Int) (a b:Bool) (s:Kst) (x y:List Sp) (x0:List Sp→Bool→Int→List Sp→List Sp→Option γ) (h:s.out.length+1≤8796093022208) :
    YY yes t a b s.out s.inn s.from_ x y x0=x0 (nC yes s ⟨t,a,b⟩).out (nC yes s ⟨t,a,b⟩).inn (nC yes s ⟨t,a,b⟩).from_ x y:=by
  unfold YY nC;simp only [vv,h,if_true];cases yes a b <;> cases s.inn <;> simp
theorem acV (yes:Bool→Bool→Bool):∀ (n:Nat) (a:List Sp) (ia:Bool) (b:List Sp) (ib:Bool) (s:Kst),msr a ia+msr b ib≤n→s.out.length+n≤1000000000→a.length+b.length≤1000000000 →
    Ev (fun k=>iB.l0 (YY yes) (fun y _ _ _ _=>some y) k ia ib s.out s.inn s.from_ a b) ((rM a ia b ib).foldl (nC yes) s).out:=by
  intro n;induction n with
  | zero =>
    intro a ia b ib s hn hs hl;have e:a=[]∧b=[]:=Classical.byContradiction fun e=>by have:=rZ a ia b ib e;omega
    obtain ⟨rfl,rfl⟩:=e;rw [qm];refine Ev.step (f:=fun _=>some s.out) (fun k => ?_) (Ev.now _);have:¬ (wq 0>0):=by rw [jf (by omega) (by omega)];omega
    simp [iB.l0,iB.l0T,this]
  | succ n ih =>
    intro a ia b ib s hn hs hl;by_cases e:a=[]∧b=[]
    · obtain ⟨rfl,rfl⟩:=e
      rw [qm];refine Ev.step (f:=fun _=>some s.out) (fun k => ?_) (Ev.now _);have:¬ (wq 0>0):=by rw [jf (by omega) (by omega)];omega
      simp [iB.l0,iB.l0T,this]
    · have hlt:=rZ a ia b ib e
      have hla:∀ (l:List Sp) (i:Bool) (t:Int),(kQ l i t).1.length≤l.length:=fun l i t=>by
        match l,i with
        | [],i=>simp [kQ]
        | s :: r,true=>simp only [kQ];split <;> simp
        | s :: r,false=>simp only [kQ];split <;> simp
      rw [uq a ia b ib e,List.foldl_cons];have hk:=abE yes s ⟨atL a ia b ib,(kQ a ia (atL a ia b ib)).2,(kQ b ib (atL a ia b ib)).2⟩;have q:=ih (kQ a ia (atL a ia b ib)).1 (kQ a ia (atL a ia b ib)).2 (kQ b ib (atL a ia b ib)).1 (kQ b ib (atL a ia b ib)).2 (nC yes s ⟨atL a ia b ib,(kQ a ia (atL a ia b ib)).2,(kQ b ib (atL a ia b ib)).2⟩) (by omega) (by omega) (by have:=hla a ia (atL a ia b ib);have:=hla b ib (atL a ia b ib);omega);refine Ev.step (fun k=>rfl) ?_;have hw:wq ((a.length:Int)+(b.length:Int))>0:=by
        rw [jf (by omega) (by omega)];have:0<a.length+b.length:=Nat.pos_of_ne_zero fun h0=>e ⟨List.eq_nil_of_length_eq_zero (by omega),List.eq_nil_of_length_eq_zero (by omega)⟩;omega
      have hs1:s.out.length+1≤8796093022208:=by omega
      simp only [iB.l0,iB.l0T,decide_eq_true_eq,hw,if_true,ag5,Option.bind_some];by_cases ha:a=[]
      · have hb:b≠[]:=fun h=>e ⟨ha,h⟩
        have hat:atL a ia b ib=qH b ib:=by unfold atL;rw [if_pos ha]
        refine Ev.yes (by rw [ha];rfl) ?_;simp only [aaD _ b ib hb,Option.bind_some,zA yes _ _ _ s _ _ _ hs1];rw [← hat];exact q
      · have ha':¬ (a.length:Int)=0:=fun h=>ha (List.eq_nil_of_length_eq_zero (by omega))
        refine Ev.no ha' ?_;by_cases hb:b=[]
        · have hat:atL a ia b ib=qH a ia:=by unfold atL;rw [if_neg ha,if_pos hb]
          refine Ev.yes (by rw [hb];rfl) ?_;simp only [aaD _ a ia ha,Option.bind_some,zA yes _ _ _ s _ _ _ hs1];rw [← hat];exact q
        · have hb':¬ (b.length:Int)=0:=fun h=>hb (List.eq_nil_of_length_eq_zero (by omega))
          have hat:atL a ia b ib=mn (qH a ia) (qH b ib):=by unfold atL;rw [if_neg ha,if_neg hb,afM]
          refine Ev.no hb' ?_;simp only [aaD _ a ia ha,aaD _ b ib hb,Option.bind_some,zA yes _ _ _ s _ _ _ hs1];rw [← hat];exact q
theorem acW (yes:Bool→Bool→Bool) (a b:List Sp) (h:a.length+b.length≤1000000):Ev (fun k=>iB.l0 (YY yes) (fun y _ _ _ _=>some y) k false false [] false 0 a b) (pO yes a b) :=
  acV yes _ a false b false ⟨false,0,[]⟩ (Nat.le_refl _) (by unfold msr;simp;omega) (by omega)
theorem afV (a b:List Sp) (h:a.length+b.length≤1000000):Ev (fun k=>iB.f k a b) (pO (fun a b=>a && !b) a b):=by
  refine Ev.congr (fun k => ?_) (acW (fun a b=>a && !b) a b h);have:∀ x y,j4.f k x y=some (x && !y):=fun x y=>by cases x <;> rfl
  simp only [iB.f,this,Option.bind_some];rfl
theorem aee {γ:Type} (Y:Int→Bool→Bool→List Sp→Bool→Int→List Sp→List Sp→(List Sp→Bool→Int→List Sp→List Sp→Option γ)→Option γ) (X:List Sp→Bool→Int→List Sp→List Sp→Option γ) (k:Nat):iH.l0 Y X k=iB.l0 Y X k:=by kernel_rfl
theorem ag6 (a b:List Sp) (h:a.length+b.length≤1000000):Ev (fun k=>iH.f k a b) (pO (fun a b=>a&&b) a b):=by
  refine Ev.congr (fun k => ?_) (acW (fun a b=>a&&b) a b h);have:∀ x y,kI.f k x y=some (x&&y):=fun x y=>by cases x <;> rfl
  simp only [iH.f,this,Option.bind_some,aee];rfl
theorem yx (a b:List Sp) (h:a.length+b.length≤1000000):Ev (fun k=>jg.f k a b) (decide (pO (fun a b=>a && !b) a b=[])):=by
  unfold jg.f;refine Ev.bind (afV a b h) ?_;cases pO (fun a b=>a && !b) a b with
  | nil=>exact Ev.now _
  | cons x r=>exact Ev.congr (f:=fun _=>some (decide (x :: r=[]))) (fun k=>by simp;omega) (Ev.now _)
theorem afW (a b:List Sp) (h:a.length+b.length≤1000000):Ev (fun k=>jT.f k a b) (decide (pO (fun a b=>a&&b) a b≠[])):=by
  unfold jT.f;refine Ev.bind (ag6 a b h) ?_;cases pO (fun a b=>a&&b) a b with
  | nil=>exact Ev.now _
  | cons x r=>exact Ev.congr (f:=fun _=>some (decide (x :: r≠[]))) (fun k=>by simp) (Ev.now _)
theorem ag7 {lb ub:Int} (l:List Sp) (x:Int) (hs:SL lb ub l) (hn:l.length≤4611686018427387903):Ev (fun k=>iI.f k l x) (kE l x):=by
  simp only [iI.f,acU,Option.bind_some,decide_eq_true_eq];have key:∀ (d lo hi:Nat),hi - lo=d→lo≤hi→hi≤l.length→(∀ j (hj:j<l.length),j<lo→l[j].f1<x)→(∀ j (hj:j<l.length),hi≤j→x≤l[j].f1) →
      Ev (fun k=>iI.l0 (fun y=>if y<(l.length:Int) then if 0≤y then if y<(l.length:Int) then if (if (gS l y).f1<x then (-1:Int) else if (gS l y).f0>x then 1 else 0)=0 then some (decide (y<(l.length:Int))) else some false else none else none else some false) l x k (lo:Int) (hi:Int)) (kE l x):=by
    intro d;induction d using Nat.strongRecOn with
    | ind d ih =>
      intro lo hi hd hle hhn hlow hhigh;by_cases hlt:lo<hi
      · have c1:(lo:Int)<(hi:Int):=by omega
        have hm:=acw lo hi (by omega) hle;have hmid:(lo+hi) / 2<l.length:=by omega
        have hrd:=ahj l ((lo+hi) / 2) hmid;have c2:(0:Int)≤(((lo+hi) / 2:Nat):Int):=by omega
        have c3:(((lo+hi) / 2:Nat):Int)<(l.length:Int):=by omega
        have hw:wq ((((lo+hi) / 2:Nat):Int)+1)=(((lo+hi) / 2+1:Nat):Int):=by rw [jf (by omega) (by omega)];simp
        refine Ev.step (fun k=>rfl) ?_;by_cases t:l[(lo+hi) / 2].f1<x
        · have r1:=ih (hi - ((lo+hi) / 2+1)) (by omega) ((lo+hi) / 2+1) hi rfl (by omega) hhn (fun j hj h=>by
            rcases Nat.lt_or_ge j ((lo+hi) / 2) with g | g
            · have:=SL.rise hs j _ hmid g
              have:=(SL.get hs _ hmid).2.1;omega
            · have:j=(lo+hi) / 2:=by omega
              subst this;exact t) hhigh
          simp only [iI.l0,iI.l0T,decide_eq_true_eq,c1,hm,c2,c3,hrd,acU,t,Option.bind_some,hw,if_true];exact Ev.yes (by omega) r1
        · have r1:=ih ((lo+hi) / 2 - lo) (by omega) lo ((lo+hi) / 2) rfl (by omega) (by omega) hlow (fun j hj h=>by
            rcases Nat.lt_or_ge ((lo+hi) / 2) j with g | g
            · have:=SL.rise hs _ j hj g
              have:=(SL.get hs _ hj).2.1;omega
            · have:j=(lo+hi) / 2:=by omega
              subst this;omega)
          have hneg:¬ (if l[(lo+hi) / 2].f1<x then (-1:Int) else if l[(lo+hi) / 2].f0>x then 1 else 0)<0:=by rw [if_neg t];split <;> omega
          simp only [iI.l0,iI.l0T,decide_eq_true_eq,c1,hm,c2,c3,hrd,acU,Option.bind_some,hneg,if_true,if_false];exact r1
      · have he:lo=hi:=by omega
        subst he;have c1:¬ (lo:Int)<(lo:Int):=by omega
        refine Ev.step (f:=fun _=>some (kE l x)) (fun k => ?_) (Ev.now _);by_cases hlast:lo<l.length
        · have hx:=hhigh lo hlast (by omega)
          have c2:(lo:Int)<(l.length:Int):=by omega
          have c3:(0:Int)≤(lo:Int):=by omega
          have c4:¬ l[lo].f1<x:=by omega
          have hh:kE l x=decide (¬ l[lo].f0>x):=by
            rw [Bool.eq_iff_iff];simp only [decide_eq_true_eq,mK];constructor
            · rintro ⟨s,hmem,h1,h2⟩
              obtain ⟨j,hj,rfl⟩:=List.getElem_of_mem hmem;rcases Nat.lt_or_ge j lo with g | g
              · have:=hlow j hj g;omega
              · rcases Nat.lt_or_ge lo j with g2 | g2
                · have:=SL.rise hs _ j hj g2
                  have:=(SL.get hs _ hlast).2.1;omega
                · have:j=lo:=by omega
                  subst this;omega
            · intro h
              exact ⟨l[lo],List.getElem_mem hlast,by omega,hx⟩
          simp only [iI.l0,iI.l0T,decide_eq_true_eq,c1,c2,c3,ahj l lo hlast,c4,if_true,if_false,hh];by_cases g:l[lo].f0>x <;> simp [g]
        · have hl:lo=l.length:=by omega
          have c2:¬ (lo:Int)<(l.length:Int):=by omega
          have hh:kE l x=false:=by
            rw [Bool.eq_false_iff];intro h;obtain ⟨s,hmem,h1,h2⟩:=mK.1 h;obtain ⟨j,hj,rfl⟩:=List.getElem_of_mem hmem;have:=hlow j hj (by omega);omega
          simp only [iI.l0,iI.l0T,decide_eq_true_eq,c1,c2,if_false,hh]
  exact key _ 0 l.length rfl (by omega) (by omega) (by intro j _ h;omega) (by intro j hj h;omega)
end Go.Proofs.YtongeknogcboiaaGreat.Q
namespace Go.Proofs.YtongeknogcboiaaGreat.Q
set_option linter.unusedVariables false
set_option linter.unusedSimpArgs false
open Go.RowKit Go.Proofs.YtongeknogcboiaaGreatW.gq Go.Proofs.YtongeknogcboiaaGreatW.iR M R P
section
variable {α β:Type}
def Ev2 (g:Nat→Nat→Option α) (r:α):Prop:=∃ K,∀ k m,K≤k→K≤m→g k m=some r
theorem Ev2.diag {g:Nat→Nat→Option α} {r:α} (h:Ev2 g r):Ev (fun k=>g k k) r:=let ⟨K,h⟩:=h;⟨K,fun k hk=>h k k hk hk⟩
theorem Ev2.right {g:Nat→Option α} {r:α} (h:Ev g r):Ev2 (fun _ m=>g m) r:=let ⟨K,h⟩:=h;⟨K,fun _ m _ hm=>h m hm⟩
theorem Ev2.pY {g:Nat→Option α} {f:Nat→Nat→α→Option β} {a:α} {r:β} (h:Ev g a) (k:Ev2 (fun n m=>f n m a) r):Ev2 (fun n m=>(g n).bind (f n m)) r:=by
  obtain ⟨K,h⟩:=h;obtain ⟨J,k⟩:=k;exact ⟨max K J,fun n m hn hm=>by show (g n).bind (f n m)=some r;rw [h n (by omega),Option.bind_some];exact k n m (by omega) (by omega)⟩
theorem Ev2.ag8 {g:Nat→Option α} {f:Nat→Nat→α→Option β} {a:α} {r:β} (h:Ev g a) (k:Ev2 (fun n m=>f n m a) r):Ev2 (fun n m=>(g m).bind (f n m)) r:=by
  obtain ⟨K,h⟩:=h;obtain ⟨J,k⟩:=k;exact ⟨max K J,fun n m hn hm=>by show (g m).bind (f n m)=some r;rw [h m (by omega),Option.bind_some];exact k n m (by omega) (by omega)⟩
theorem Ev2.step {g f:Nat→Nat→Option α} {r:α} (h:∀ k m,g (k+1) m=f k m) (k:Ev2 f r):Ev2 g r:=by
  obtain ⟨K,k⟩:=k;refine ⟨K+1,fun n m hn hm => ?_⟩;obtain ⟨j,rfl⟩:∃ j,n=j+1:=⟨n - 1,by omega⟩;rw [h];exact k j m (by omega) (by omega)
theorem Ev2.yes {c:Prop} [Decidable c] {g f:Nat→Nat→Option α} {r:α} (h:c) (k:Ev2 g r):Ev2 (fun n m=>if c then g n m else f n m) r:=let ⟨K,k⟩:=k;⟨K,fun n m hn hm=>(if_pos h).trans (k n m hn hm)⟩
theorem Ev2.no {c:Prop} [Decidable c] {g f:Nat→Nat→Option α} {r:α} (h:¬ c) (k:Ev2 f r):Ev2 (fun n m=>if c then g n m else f n m) r:=let ⟨K,k⟩:=k;⟨K,fun n m hn hm=>(if_neg h).trans (k n m hn hm)⟩
theorem Ev2.of {g:Nat→Option α} {r:α} (h:Ev g r):Ev2 (fun n _=>g n) r:=let ⟨K,h⟩:=h;⟨K,fun n _ hn _=>h n hn⟩
def Ev3 (g:Nat→Nat→Nat→Option α) (r:α):Prop:=∃ K,∀ k a m,K≤k→K≤a→K≤m→g k a m=some r
theorem Ev3.two {g:Nat→Nat→Nat→Option α} {r:α} (h:Ev3 g r):Ev2 (fun k m=>g k k m) r:=let ⟨K,h⟩:=h;⟨K,fun k m hk hm=>h k k m hk hk hm⟩
theorem Ev3.right {g:Nat→Nat→Option α} {r:α} (h:Ev2 g r):Ev3 (fun _ a m=>g a m) r:=let ⟨K,h⟩:=h;⟨K,fun _ a m _ ha hm=>h a m ha hm⟩
theorem Ev3.pY {g:Nat→Option α} {f:Nat→Nat→Nat→α→Option β} {x:α} {r:β} (h:Ev g x) (k:Ev3 (fun n a m=>f n a m x) r):Ev3 (fun n a m=>(g n).bind (f n a m)) r:=by
  obtain ⟨K,h⟩:=h;obtain ⟨J,k⟩:=k;exact ⟨max K J,fun n a m hn ha hm=>by show (g n).bind (f n a m)=some r;rw [h n (by omega),Option.bind_some];exact k n a m (by omega) (by omega) (by omega)⟩
theorem Ev3.aef {g:Nat→Option α} {f:Nat→Nat→Nat→α→Option β} {x:α} {r:β} (h:Ev g x) (k:Ev3 (fun n a m=>f n a m x) r):Ev3 (fun n a m=>(g a).bind (f n a m)) r:=by
  obtain ⟨K,h⟩:=h;obtain ⟨J,k⟩:=k;exact ⟨max K J,fun n a m hn ha hm=>by show (g a).bind (f n a m)=some r;rw [h a (by omega),Option.bind_some];exact k n a m (by omega) (by omega) (by omega)⟩
theorem Ev3.step {g f:Nat→Nat→Nat→Option α} {r:α} (h:∀ k a m,g (k+1) a m=f k a m) (k:Ev3 f r):Ev3 g r:=by
  obtain ⟨K,k⟩:=k;refine ⟨K+1,fun n a m hn ha hm => ?_⟩;obtain ⟨j,rfl⟩:∃ j,n=j+1:=⟨n - 1,by omega⟩;rw [h];exact k j a m (by omega) (by omega) (by omega)
theorem Ev3.yes {c:Prop} [Decidable c] {g f:Nat→Nat→Nat→Option α} {r:α} (h:c) (k:Ev3 g r):Ev3 (fun n a m=>if c then g n a m else f n a m) r:=let ⟨K,k⟩:=k;⟨K,fun n a m hn ha hm=>(if_pos h).trans (k n a m hn ha hm)⟩
theorem Ev3.no {c:Prop} [Decidable c] {g f:Nat→Nat→Nat→Option α} {r:α} (h:¬ c) (k:Ev3 f r):Ev3 (fun n a m=>if c then g n a m else f n a m) r:=let ⟨K,k⟩:=k;⟨K,fun n a m hn ha hm=>(if_neg h).trans (k n a m hn ha hm)⟩
abbrev F4 (τ:Type):=Int→Int→List (List Sp)→List Gn→τ
abbrev X3T (γ:Type):=F4 (F4 (F4 (F4 (List Sp→F4 (Int→Int→F4 (Int→Option γ))))))
abbrev X4T (γ:Type):=F4 (F4 (F4 (F4 (List Sp→F4 (Int→Int→Int→F4 (Int→Option γ))))))
abbrev X5T (γ:Type):=F4 (F4 (F4 (F4 (List Sp→F4 (Int→Option γ)))))
abbrev X6T (γ:Type):=F4 (F4 (F4 (F4 (List Sp→F4 (Option γ)))))
variable {p c:Int} {core:List (List Sp)} {odd:List Gn}
theorem SL.after {hi:Int} {s u:Sp}:∀ {pre r:List Sp} {lo:Int},SL lo hi (pre++s :: r)→u∈r→s.f1<u.f0
  | [],r,lo,h,hu=>by
    have:=(SL.ticks h.2.2.2 hu).1;omega
  | x :: pre,r,lo,h,hu=>SL.after (pre:=pre) h.2.2.2 hu
def ajt (p c:Int) (core:List (List Sp)) (odd:List Gn) (so:Int→Bool) (s1 i:Int):Option Int→Prop
  | some j=>Ex p c core odd j∧i≤j∧so j=true∧gLo p c core odd j≤s1∧∀ m,Ex p c core odd m→i≤m→m<j→so m=false
  | none=>∀ m,Ex p c core odd m→i≤m→gLo p c core odd m≤s1→so m=false
def aia (p c:Int) (core:List (List Sp)) (odd:List Gn) (so:Int→Bool) (s0 i:Int):Option Int→Prop
  | some j=>Ex p c core odd j∧j≤i∧so j=true∧s0≤gHi p c core odd j∧∀ m,Ex p c core odd m→m≤i→j<m→so m=false
  | none=>∀ m,Ex p c core odd m→m≤i→s0≤gHi p c core odd m→so m=false
def ag9 (p c:Int) (core:List (List Sp)) (odd:List Gn) (so:Int→Bool):Option Int→Prop
  | some j=>Ex p c core odd j∧so j=true∧∀ m,Ex p c core odd m→so m=true→j≤m
  | none=>∀ m,Ex p c core odd m→so m=false
def afX (p c:Int) (core:List (List Sp)) (odd:List Gn) (so:Int→Bool):Option Int→Prop
  | some j=>Ex p c core odd j∧so j=true∧∀ m,Ex p c core odd m→so m=true→m≤j
  | none=>∀ m,Ex p c core odd m→so m=false
def aha (p c:Int) (core:List (List Sp)) (odd:List Gn) (so:Int→Bool) (set:List Sp):Prop:=∀ m,Ex p c core odd m→so m=true→∃ s∈set,gLo p c core odd m≤s.f1∧s.f0≤gHi p c core odd m
end
variable [Inhabited WT]
variable {p c pa ca:Int} {core ka:List (List Sp)} {odd oa:List Gn} {γ:Type}
theorem aeM {W:Nat→List Sp→List Sp→Option Bool} (h:FOK p c core odd) {so:Int→Bool} {set:List Sp} (hso:∀ m,Ex p c core odd m→Ev (fun k=>W k (gT p c core odd m) set) (so m)) (s0 s1:Int):∀ (d:Nat) (b i:Int) (ok:Bool),
    (ok=true→(1099511627777 - i).toNat≤d)→(ok=true→inR i∧fs c core odd i≠[]∧b≤i∧∀ m,Ex p c core odd m→b≤m→i≤m)→(ok=true→∃ i0,Ex p c core odd i0∧i0≤i)→(ok=false→∀ m,Ex p c core odd m→¬ b≤m) →
    ∃ r,ajt p c core odd so s1 b r∧∀ (X0 X1:Nat→Nat→X3T γ) (X2:Nat→Nat→X4T γ) (X3:Nat→Nat→X3T γ) (v:γ),
      (r=none→Ev2 (fun k m=>X0 k m pa ca ka oa p c core odd pa ca ka oa p c core odd set p c core odd s0 s1 p c core odd s0) v∧Ev2 (fun k m=>X1 k m pa ca ka oa p c core odd pa ca ka oa p c core odd set p c core odd s0 s1 p c core odd s0) v∧Ev2 (fun k m=>X3 k m pa ca ka oa p c core odd pa ca ka oa p c core odd set p c core odd s0 s1 p c core odd s0) v) →
      (∀ j,r=some j→Ev2 (fun k m=>X2 k m pa ca ka oa p c core odd pa ca ka oa p c core odd set p c core odd j s0 s1 p c core odd s0) v) →
      Ev3 (fun k k' m=>fG.l1 (fun q1 q2 q3 q4 q5 q6 q7 q8 q9 af ah ai aj ak al q16 am ao ab ap aq q22 au q24 ac aw ax ay az aA x0 x1 x2=>if 0<(q2.length:Int) then (if (gS q2 0).f0>ac then x0 q3 q4 q5 q6 q7 q8 q9 af ah ai aj ak al q16 am ao ab ap aq q22 au q24 ac aw ax ay az aA else ((W k' q2 ab).bind fun t=>if t=true then x1 q3 q4 q5 q6 q7 q8 q9 af ah ai aj ak al q16 am ao ab ap aq q22 au q1 q24 ac aw ax ay az aA else x2 q3 q4 q5 q6 q7 q8 q9 af ah ai aj ak al q16 am ao ab ap aq q22 au q24 ac aw ax ay az aA)) else none)
        (X0 k' m) (X1 k' m) (X2 k' m) (X3 k' m) k i ok pa ca ka oa p c core odd pa ca ka oa p c core odd set p c core odd s0 s1 p c core odd s0) v:=by
  intro d;induction d with
  | zero =>
    intro b i ok h1 h2 h3 h4;have hok:ok=false:=by
      cases ok with
      | true=>have:=(h2 rfl).1;unfold inR at this;have:=h1 rfl;omega
      | false=>rfl
    subst hok;refine ⟨none,fun m hm hi=>(h4 rfl m hm hi).elim,fun X0 X1 X2 X3 v hn hs=>Ev3.step (fun k a m=>rfl) ?_⟩;simp only [fG.l1,fG.l1T];exact Ev3.no (by simp) (Ev3.right (hn rfl).2.2)
  | succ d ih =>
    intro b i ok h1 h2 h3 h4;cases ok with
    | false =>
      refine ⟨none,fun m hm hi=>(h4 rfl m hm hi).elim,fun X0 X1 X2 X3 v hn hs=>Ev3.step (fun k a m=>rfl) ?_⟩;simp only [fG.l1,fG.l1T];exact Ev3.no (by simp) (Ev3.right (hn rfl).2.2)
    | true =>
      obtain ⟨hr,hf,hbi,hall⟩:=h2 rfl;obtain ⟨i0,hi0,hle⟩:=h3 rfl;have hd:=h1 rfl;have hr':=hr;unfold inR at hr';have hth:=mP h.s i;rcases lq h.s i with ⟨e,e1,e2⟩ | ⟨e,e1⟩
      · have ev:thV p c core odd i=gT p c core odd i:=by unfold thV;rw [e1]
        rw [ev] at hth;have hne:¬ ((gT p c core odd i).length:Int)=0:=fun q=>e2 (List.eq_nil_of_length_eq_zero (by omega));have hpos:(0:Int)<((gT p c core odd i).length:Int):=by omega
        have aa:(gS (gT p c core odd i) 0).f0=gLo p c core odd i:=(uP _ e2).2.trans (mO e.n).2.1;by_cases hb:gLo p c core odd i>s1
        · refine ⟨none,fun m hm hi hg => ?_,fun X0 X1 X2 X3 v hn hs=>Ev3.step (fun k a m=>rfl) ?_⟩
          · rcases Int.lt_or_le i m with g | g
            · have:=h.ord i m g e.r hm.r e.n hm.n
              have:=h.s.mM e.n;omega
            · have:m=i:=by have:=hall m hm hi;omega
              subst this;omega
          · simp only [fG.l1,fG.l1T,decide_eq_true_eq,if_true]
            refine (Ev3.pY hth (Ev3.no hne (Ev3.yes hpos (Ev3.yes (by rw [aa];exact hb) ?_))));exact Ev3.right (hn rfl).2.1
        · by_cases hs1:so i=true
          · refine ⟨some i,⟨e,hbi,hs1,by omega,fun m hm q1 q2=>by have:=hall m hm q1;omega⟩,fun X0 X1 X2 X3 v hn hs=>Ev3.step (fun k a m=>rfl) ?_⟩
            simp only [fG.l1,fG.l1T,decide_eq_true_eq,if_true];refine (Ev3.pY hth (Ev3.no hne (Ev3.yes hpos (Ev3.no (by rw [aa];exact hb) (Ev3.aef (hso i e) (Ev3.yes hs1 ?_))))));exact Ev3.right (hs i rfl)
          · have hs1':so i=false:=by simpa using hs1
            obtain ⟨n,n1,n2⟩:=oL h.s i (by omega);obtain ⟨r,r1,r2⟩:=ih (i+1) n.1 n.2 (fun q=>by have:=(n2.1 q).1;omega) (fun q=>⟨(n2.1 q).2.1,(n2.1 q).2.2.1,by have:=(n2.1 q).1;omega,fun m hm hx=>Classical.byContradiction fun hy=>by
              have hmr:=hm.r;unfold inR at hmr;exact hm.n ((n2.1 q).2.2.2 m (by omega) (by omega))⟩) (fun q=>⟨i0,hi0,by have:=(n2.1 q).1;omega⟩) (fun q m hm hx=>by
              have hmr:=hm.r;unfold inR at hmr;exact hm.n ((n2.2 q).2 m (by omega) hm.r))
            have key:∀ m,Ex p c core odd m→b≤m→m=i∨i+1≤m:=fun m hm hx=>by have:=hall m hm hx;omega
            refine ⟨r,?_,fun X0 X1 X2 X3 v hn hs=>Ev3.step (fun k a m=>rfl) ?_⟩
            · cases r with
              | none =>
                intro m hm hx hg;rcases key m hm hx with q | q
                · rw [q];exact hs1'
                · exact r1 m hm q hg
              | some j =>
                obtain ⟨q1,q2,q3,q4,q5⟩:=r1;refine ⟨q1,by omega,q3,q4,fun m hm hx hy => ?_⟩;rcases key m hm hx with q | q
                · rw [q];exact hs1'
                · exact q5 m hm q hy
            · simp only [fG.l1,fG.l1T,decide_eq_true_eq,if_true]
              refine (Ev3.pY hth (Ev3.no hne (Ev3.yes hpos (Ev3.no (by rw [aa];exact hb) (Ev3.aef (hso i e) (Ev3.no hs1 (Ev3.pY n1 ?_)))))));exact r2 X0 X1 X2 X3 v hn hs
      · have ev:thV p c core odd i=[]:=e1
        rw [ev] at hth;refine ⟨none,fun m hm hx hg=>(e (o9 h hi0 hm hle (hall m hm hx) hr hf)).elim,fun X0 X1 X2 X3 v hn hs=>Ev3.step (fun k a m=>rfl) ?_⟩;simp only [fG.l1,fG.l1T,decide_eq_true_eq,if_true];exact Ev3.pY hth (Ev3.yes rfl (Ev3.right (hn rfl).1))
theorem ahb (h:FOK p c core odd) {so:Int→Bool} {set:List Sp} (hS:SL (-1099511627776) 1099511627776 set) (hso:∀ m,Ex p c core odd m→Ev (fun k=>jT.f k (gT p c core odd m) set) (so m)) (hh:aha p c core odd so set) :
    ∃ r,ag9 p c core odd so r∧∀ (X0:Nat→X5T γ) (X1:Nat→X6T γ) (v:γ),(r=none→Ev (fun k=>X1 k pa ca ka oa p c core odd pa ca ka oa p c core odd set p c core odd) v)→(∀ j,r=some j→Ev (fun k=>X0 k pa ca ka oa p c core odd pa ca ka oa p c core odd set p c core odd j) v) →
      Ev2 (fun k k'=>fG.l0 (X0 k') (X1 k') set (set.length:Int) k 0 pa ca ka oa p c core odd pa ca ka oa p c core odd set p c core odd) v:=by
  have hl:set.length≤2199023255553:=by have:=SL.len (lo:=0) hS;omega
  have loop:∀ (rest pre:List Sp),set=pre++rest→(∀ m,Ex p c core odd m→(∃ s∈pre,gLo p c core odd m≤s.f1∧s.f0≤gHi p c core odd m)→so m=false) →
      ∃ r,ag9 p c core odd so r∧∀ (X0:Nat→X5T γ) (X1:Nat→X6T γ) (v:γ),(r=none→Ev (fun k=>X1 k pa ca ka oa p c core odd pa ca ka oa p c core odd set p c core odd) v)→(∀ j,r=some j→Ev (fun k=>X0 k pa ca ka oa p c core odd pa ca ka oa p c core odd set p c core odd j) v) →
        Ev2 (fun k k'=>fG.l0 (X0 k') (X1 k') set (set.length:Int) k (pre.length:Int) pa ca ka oa p c core odd pa ca ka oa p c core odd set p c core odd) v:=by
    intro rest;induction rest with
    | nil =>
      intro pre hp hi;refine ⟨none,fun m hm => ?_,fun X0 X1 v hn hs=>Ev2.step (fun k m=>rfl) ?_⟩
      · cases e:so m with
        | false=>rfl
        | true =>
          have:=hi m hm (by have:=hh m hm e;rw [hp,List.append_nil] at this;exact this);rw [e] at this;cases this
      · have c1:¬ (pre.length:Int)<(set.length:Int):=by rw [hp];simp
        simp only [fG.l0,fG.l0T,decide_eq_true_eq,c1,if_false];exact Ev2.right (hn rfl)
    | cons s r ih =>
      intro pre hp hi;have hlen:pre.length+1≤set.length:=by rw [hp];simp
      have hrd:gS set (pre.length:Int)=s:=by rw [hp];exact rdS _ _ _
      have c1:(pre.length:Int)<(set.length:Int):=by omega
      have c2:(0:Int)≤(pre.length:Int):=by omega
      have hw:=nx c1 c2 (by omega);obtain ⟨a,a1,a2⟩:=wE h s.f0;have hs0:=SL.ticks hS (s:=s) (by rw [hp];simp);have base:∀ m,Ex p c core odd m→s.f0≤gHi p c core odd m→a.2=true∧a.1≤m:=fun m hm hx=>by
        cases e:a.2 with
        | true=>exact ⟨rfl,(a2.y e).2.2 m hm hx⟩
        | false=>exact ((a2.n e).2 m hm hx).elim
      obtain ⟨b,hb1,hb2⟩:∃ b,(a.2=true→b=a.1)∧(a.2=false→b=1099511627777):=by
        cases a.2 with
        | true=>exact ⟨a.1,fun _=>rfl,(fun q=>by cases q)⟩
        | false=>exact ⟨1099511627777,(fun q=>by cases q),fun _=>rfl⟩
      obtain ⟨x,x1,x2⟩:=aeM (pa:=pa) (ca:=ca) (ka:=ka) (oa:=oa) (γ:=γ) h hso s.f0 s.f1 (1099511627777 - a.1).toNat b a.1 a.2 (fun _=>Nat.le_refl _) (fun q=>⟨(a2.y q).1.r,(a2.y q).1.n,Int.le_of_eq (hb1 q),fun m _ hx=>by rw [hb1 q] at hx;exact hx⟩) (fun q=>⟨a.1,(a2.y q).1,Int.le_refl _⟩) (fun q m hm hx=>by have:=hm.r;unfold inR at this;have:=hb2 q;omega);have hb3:∀ m,Ex p c core odd m→s.f0≤gHi p c core odd m→b≤m:=fun m hm hx=>by
        obtain ⟨q1,q2⟩:=base m hm hx;rw [hb1 q1];exact q2
      cases x with
      | some j =>
        obtain ⟨y1,y2,y3,y4,y5⟩:=x1;refine ⟨some j,⟨y1,y3,fun m hm hsm=>Classical.byContradiction fun hlt => ?_⟩,fun X0 X1 v hn hs=>Ev2.step (fun k m=>rfl) ?_⟩
        · obtain ⟨u,hu,u1,u2⟩:=hh m hm hsm
          rw [hp] at hu;rcases List.mem_append.1 hu with hu | hu
          · rw [hi m hm ⟨u,hu,u1,u2⟩] at hsm;cases hsm
          · rcases List.mem_cons.1 hu with rfl | hu
            · rw [y5 m hm (hb3 m hm u2) (by omega)] at hsm;cases hsm
            · have:=SL.after (hp ▸ hS) hu
              have:=h.ord m j (by omega) hm.r y1.r hm.n y1.n;omega
        · simp only [fG.l0,fG.l0T,decide_eq_true_eq,c1,c2,if_true,hrd]
          refine Ev2.pY a1 ?_;exact (x2 _ _ _ _ v (fun e=>by cases e) (fun j' e=>by cases e;exact Ev2.right (hs j rfl))).two
      | none =>
        obtain ⟨z,z1,z2⟩:=ih (pre++[s]) (by rw [hp];simp) (fun m hm ⟨u,hu,u1,u2⟩=>by
          rcases List.mem_append.1 hu with hu | hu
          · exact hi m hm ⟨u,hu,u1,u2⟩
          · simp at hu;subst hu
            exact x1 m hm (hb3 m hm u2) u1)
        refine ⟨z,z1,fun X0 X1 v hn hs=>Ev2.step (fun k m=>rfl) ?_⟩;have hz:=z2 X0 X1 v hn hs;rw [← len1] at hz;simp only [fG.l0,fG.l0T,decide_eq_true_eq,c1,c2,if_true,hrd,hw];refine Ev2.pY a1 ?_;exact (x2 _ _ _ _ v (fun _=>⟨hz,hz,hz⟩) (fun j' e=>by cases e)).two
  exact loop set [] rfl (fun m _ ⟨s,hs,_⟩=>by simp at hs)
end Go.Proofs.YtongeknogcboiaaGreat.Q
namespace Go.Proofs.YtongeknogcboiaaGreat.Q
set_option linter.unusedVariables false
set_option linter.unusedSimpArgs false
open Go.RowKit Go.Proofs.YtongeknogcboiaaGreatW.gq Go.Proofs.YtongeknogcboiaaGreatW.iR M R P
section
abbrev X7T (γ:Type):=F4 (F4 (F4 (F4 (List Sp→F4 (List Sp→Int→Int→F4 (Int→Option γ))))))
abbrev X8T (γ:Type):=F4 (F4 (F4 (F4 (List Sp→F4 (Int→List Sp→Int→Int→F4 (Int→Option γ))))))
abbrev X9T (γ:Type):=F4 (F4 (F4 (F4 (List Sp→F4 (Int→List Sp→Option γ)))))
abbrev ajk (γ:Type):=F4 (F4 (F4 (F4 (List Sp→F4 (List Sp→Option γ)))))
theorem Ev2.swap {α:Type} {g:Nat→Nat→Option α} {r:α} (h:Ev2 g r):Ev2 (fun a m=>g m a) r:=let ⟨K,h⟩:=h;⟨K,fun k m hk hm=>h m k hm hk⟩
theorem Ev3.two' {α:Type} {g:Nat→Nat→Nat→Option α} {r:α} (h:Ev3 g r):Ev2 (fun k m=>g m m k) r:=let ⟨K,h⟩:=h;⟨K,fun k m hk hm=>h m m k hm hm hk⟩
end
variable [Inhabited WT]
variable {p c pa ca:Int} {core ka:List (List Sp)} {odd oa:List Gn} {γ:Type}
theorem afY {W:Nat→List Sp→List Sp→Option Bool} (h:FOK p c core odd) {so:Int→Bool} {set:List Sp} (hso:∀ m,Ex p c core odd m→Ev (fun k=>W k (gT p c core odd m) set) (so m)) (s0 s1:Int):∀ (d:Nat) (b i:Int) (ok:Bool),
    (ok=true→(i+1099511627777).toNat≤d)→(ok=true→inR i∧fs c core odd i≠[]∧i≤b∧∀ m,Ex p c core odd m→m≤b→m≤i)→(ok=true→∃ i0,Ex p c core odd i0∧i≤i0)→(ok=false→∀ m,Ex p c core odd m→¬ m≤b) →
    ∃ r,aia p c core odd so s0 b r∧∀ (X0 X1:Nat→Nat→X7T γ) (X2:Nat→Nat→X8T γ) (X3:Nat→Nat→X7T γ) (v:γ),
      (r=none→Ev2 (fun k m=>X0 k m pa ca ka oa p c core odd pa ca ka oa p c core odd set p c core odd set s0 s1 p c core odd s1) v∧Ev2 (fun k m=>X1 k m pa ca ka oa p c core odd pa ca ka oa p c core odd set p c core odd set s0 s1 p c core odd s1) v∧Ev2 (fun k m=>X3 k m pa ca ka oa p c core odd pa ca ka oa p c core odd set p c core odd set s0 s1 p c core odd s1) v) →
      (∀ j,r=some j→Ev2 (fun k m=>X2 k m pa ca ka oa p c core odd pa ca ka oa p c core odd set p c core odd j set s0 s1 p c core odd s1) v) →
      Ev3 (fun k k' m=>fG.l3 (fun q1 q2 q3 q4 q5 q6 q7 q8 q9 af ah ai aj ak al q16 am ao ab ap aq q22 au q24 ac aw ax ay az aA aB x0 x1 x2=>if 0≤wq ((q2.length:Int) - 1) then (if wq ((q2.length:Int) - 1)<(q2.length:Int) then (if (gS q2 (wq ((q2.length:Int) - 1))).f1<ac then x0 q3 q4 q5 q6 q7 q8 q9 af ah ai aj ak al q16 am ao ab ap aq q22 au q24 ac aw ax ay az aA aB else ((W k' q2 ab).bind fun t=>if t=true then x1 q3 q4 q5 q6 q7 q8 q9 af ah ai aj ak al q16 am ao ab ap aq q22 au q1 q24 ac aw ax ay az aA aB else x2 q3 q4 q5 q6 q7 q8 q9 af ah ai aj ak al q16 am ao ab ap aq q22 au q24 ac aw ax ay az aA aB)) else none) else none)
        (X0 k' m) (X1 k' m) (X2 k' m) (X3 k' m) k i ok pa ca ka oa p c core odd pa ca ka oa p c core odd set p c core odd set s0 s1 p c core odd s1) v:=by
  intro d;induction d with
  | zero =>
    intro b i ok h1 h2 h3 h4;have hok:ok=false:=by
      cases ok with
      | true=>have:=(h2 rfl).1;unfold inR at this;have:=h1 rfl;omega
      | false=>rfl
    subst hok;refine ⟨none,fun m hm hi=>(h4 rfl m hm hi).elim,fun X0 X1 X2 X3 v hn hs=>Ev3.step (fun k a m=>rfl) ?_⟩;simp only [fG.l3,fG.l3T];exact Ev3.no (by simp) (Ev3.right (hn rfl).2.2)
  | succ d ih =>
    intro b i ok h1 h2 h3 h4;cases ok with
    | false =>
      refine ⟨none,fun m hm hi=>(h4 rfl m hm hi).elim,fun X0 X1 X2 X3 v hn hs=>Ev3.step (fun k a m=>rfl) ?_⟩;simp only [fG.l3,fG.l3T];exact Ev3.no (by simp) (Ev3.right (hn rfl).2.2)
    | true =>
      obtain ⟨hr,hf,hbi,hall⟩:=h2 rfl;obtain ⟨i0,hi0,hle⟩:=h3 rfl;have hd:=h1 rfl;have hr':=hr;unfold inR at hr';have hth:=mP h.s i;rcases lq h.s i with ⟨e,e1,e2⟩ | ⟨e,e1⟩
      · have ev:thV p c core odd i=gT p c core odd i:=by unfold thV;rw [e1]
        rw [ev] at hth;have hne:¬ ((gT p c core odd i).length:Int)=0:=fun q=>e2 (List.eq_nil_of_length_eq_zero (by omega));obtain ⟨w1,aC,w3⟩:=yj _ e2 (h.s.ng e).vV;have w2:0≤wq (((gT p c core odd i).length:Int) - 1):=by rw [w1];exact aC
        have w4:wq (((gT p c core odd i).length:Int) - 1)<((gT p c core odd i).length:Int):=by rw [w1];omega
        have aa:(gS (gT p c core odd i) (wq (((gT p c core odd i).length:Int) - 1))).f1=gHi p c core odd i:=by rw [w1];exact w3.trans (mO e.n).2.2
        by_cases hb:gHi p c core odd i<s0
        · refine ⟨none,fun m hm hi hg => ?_,fun X0 X1 X2 X3 v hn hs=>Ev3.step (fun k a m=>rfl) ?_⟩
          · rcases Int.lt_or_le m i with g | g
            · have:=h.ord m i g hm.r e.r hm.n e.n
              have:=h.s.mM e.n;omega
            · have:m=i:=by have:=hall m hm hi;omega
              subst this;omega
          · simp only [fG.l3,fG.l3T,decide_eq_true_eq,if_true]
            refine (Ev3.pY hth (Ev3.no hne (Ev3.yes w2 (Ev3.yes w4 (Ev3.yes (by rw [aa];exact hb) ?_)))));exact Ev3.right (hn rfl).2.1
        · by_cases hs1:so i=true
          · refine ⟨some i,⟨e,hbi,hs1,by omega,fun m hm q1 q2=>by have:=hall m hm q1;omega⟩,fun X0 X1 X2 X3 v hn hs=>Ev3.step (fun k a m=>rfl) ?_⟩
            simp only [fG.l3,fG.l3T,decide_eq_true_eq,if_true];refine (Ev3.pY hth (Ev3.no hne (Ev3.yes w2 (Ev3.yes w4 (Ev3.no (by rw [aa];exact hb) (Ev3.aef (hso i e) (Ev3.yes hs1 ?_)))))));exact Ev3.right (hs i rfl)
          · have hs1':so i=false:=by simpa using hs1
            obtain ⟨n,n1,n2⟩:=oM h.s i (by omega);obtain ⟨r,r1,r2⟩:=ih (i - 1) n.1 n.2 (fun q=>by have:=(n2.1 q).1;omega) (fun q=>⟨(n2.1 q).2.1,(n2.1 q).2.2.1,by have:=(n2.1 q).1;omega,fun m hm hx=>Classical.byContradiction fun hy=>by
              have hmr:=hm.r;unfold inR at hmr;exact hm.n ((n2.1 q).2.2.2 m (by omega) (by omega))⟩) (fun q=>⟨i0,hi0,by have:=(n2.1 q).1;omega⟩) (fun q m hm hx=>by
              have hmr:=hm.r;unfold inR at hmr;exact hm.n ((n2.2 q).2 m (by omega) hm.r))
            have key:∀ m,Ex p c core odd m→m≤b→m=i∨m≤i - 1:=fun m hm hx=>by have:=hall m hm hx;omega
            refine ⟨r,?_,fun X0 X1 X2 X3 v hn hs=>Ev3.step (fun k a m=>rfl) ?_⟩
            · cases r with
              | none =>
                intro m hm hx hg;rcases key m hm hx with q | q
                · rw [q];exact hs1'
                · exact r1 m hm q hg
              | some j =>
                obtain ⟨q1,q2,q3,q4,q5⟩:=r1;refine ⟨q1,by omega,q3,q4,fun m hm hx hy => ?_⟩;rcases key m hm hx with q | q
                · rw [q];exact hs1'
                · exact q5 m hm q hy
            · simp only [fG.l3,fG.l3T,decide_eq_true_eq,if_true]
              refine (Ev3.pY hth (Ev3.no hne (Ev3.yes w2 (Ev3.yes w4 (Ev3.no (by rw [aa];exact hb) (Ev3.aef (hso i e) (Ev3.no hs1 (Ev3.pY n1 ?_))))))));exact r2 X0 X1 X2 X3 v hn hs
      · have ev:thV p c core odd i=[]:=e1
        rw [ev] at hth;refine ⟨none,fun m hm hx hg=>(e (o9 h hm hi0 (hall m hm hx) hle hr hf)).elim,fun X0 X1 X2 X3 v hn hs=>Ev3.step (fun k a m=>rfl) ?_⟩;simp only [fG.l3,fG.l3T,decide_eq_true_eq,if_true];exact Ev3.pY hth (Ev3.yes rfl (Ev3.right (hn rfl).1))
noncomputable def YB [Inhabited WT] {γ:Type} (W:Nat→List Sp→List Sp→Option Bool) (k':Nat):Int→Int→Int→F4 (F4 (F4 (F4 (List Sp→F4 (List Sp→(F4 (F4 (F4 (F4 (List Sp→F4 (List Sp→Option γ))))))→X9T γ→Option γ))))) :=
  fun q1 q2 q3 q4 q5 q6 q7 q8 q9 aG aH aI aJ aK aL q16 aM aN aO aP am q22 ao q24 aQ x0 x1=>(fP.f k' am q22 ao q24 q3).bind fun t=>fG.l3 (fun p1 p2 p3 p4 p5 p6 p7 p8 p9 ap aq au aw ax ay p16 az aA al aB aC aD aE aF p25 p26 p27 p28 p29 p30 p31 y0 y1 y2=>if 0≤wq ((p2.length:Int) - 1) then (if wq ((p2.length:Int) - 1)<(p2.length:Int) then (if (gS p2 (wq ((p2.length:Int) - 1))).f1<p25 then y0 p3 p4 p5 p6 p7 p8 p9 ap aq au aw ax ay p16 az aA al aB aC aD aE aF p25 p26 p27 p28 p29 p30 p31 else ((W k' p2 al).bind fun t=>if t=true then y1 p3 p4 p5 p6 p7 p8 p9 ap aq au aw ax ay p16 az aA al aB aC aD aE p1 aF p25 p26 p27 p28 p29 p30 p31 else y2 p3 p4 p5 p6 p7 p8 p9 ap aq au aw ax ay p16 az aA al aB aC aD aE aF p25 p26 p27 p28 p29 p30 p31)) else none) else none)
          (fun z1 z2 z3 z4 z5 z6 z7 z8 z9 aa ab z12 ac af ah ai z17 aj ak z20 z21 z22 z23 z24 z25 z26 z27 z28 z29=>x0 z1 z2 z3 z4 z5 z6 z7 z8 z9 aa ab z12 ac af ah ai z17 aj ak z20 z21 z22) (fun z1 z2 z3 z4 z5 z6 z7 z8 z9 aa ab z12 ac af ah ai z17 aj ak z20 z21 z22 z23 z24 z25 z26 z27 z28 z29=>x0 z1 z2 z3 z4 z5 z6 z7 z8 z9 aa ab z12 ac af ah ai z17 aj ak z20 z21 z22)
          (fun z1 z2 z3 z4 z5 z6 z7 z8 z9 aa ab z12 ac af ah ai z17 aj ak z20 z21 z22 z23 z24 z25 z26 z27 z28 z29 z30=>x1 z1 z2 z3 z4 z5 z6 z7 z8 z9 aa ab z12 ac af ah ai z17 aj ak z20 z21 z22 z23) (fun z1 z2 z3 z4 z5 z6 z7 z8 z9 aa ab z12 ac af ah ai z17 aj ak z20 z21 z22 z23 z24 z25 z26 z27 z28 z29=>x0 z1 z2 z3 z4 z5 z6 z7 z8 z9 aa ab z12 ac af ah ai z17 aj ak z20 z21 z22)
          k' t.1 t.2 q4 q5 q6 q7 q8 q9 aG aH aI aJ aK aL q16 aM aN aO aP am q22 ao q24 aQ q2 q3 am q22 ao q24 q3
theorem acX {W:Nat→List Sp→List Sp→Option Bool} (h:FOK p c core odd) {so:Int→Bool} {set:List Sp} (hS:SL (-1099511627776) 1099511627776 set) (hso:∀ m,Ex p c core odd m→Ev (fun k=>W k (gT p c core odd m) set) (so m)) (hh:aha p c core odd so set) :
    ∃ r,afX p c core odd so r∧∀ (X0:Nat→X9T γ) (X1:Nat→ajk γ) (v:γ),(r=none→Ev (fun k=>X1 k pa ca ka oa p c core odd pa ca ka oa p c core odd set p c core odd set) v)→(∀ j,r=some j→Ev (fun k=>X0 k pa ca ka oa p c core odd pa ca ka oa p c core odd set p c core odd j set) v) →
      Ev2 (fun k k'=>fG.l2 (YB W k') (X0 k') (X1 k') k (wq ((set.length:Int) - 1)) pa ca ka oa p c core odd pa ca ka oa p c core odd set p c core odd set) v:=by
  have hl:set.length≤2199023255553:=by have:=SL.len (lo:=0) hS;omega
  have loop:∀ (n:Nat),n≤set.length→(∀ m,Ex p c core odd m→(∃ j,∃ hj:j<set.length,n≤j∧gLo p c core odd m≤set[j].f1∧set[j].f0≤gHi p c core odd m)→so m=false) →
      ∃ r,afX p c core odd so r∧∀ (X0:Nat→X9T γ) (X1:Nat→ajk γ) (v:γ),(r=none→Ev (fun k=>X1 k pa ca ka oa p c core odd pa ca ka oa p c core odd set p c core odd set) v)→(∀ j,r=some j→Ev (fun k=>X0 k pa ca ka oa p c core odd pa ca ka oa p c core odd set p c core odd j set) v) →
        Ev2 (fun k k'=>fG.l2 (YB W k') (X0 k') (X1 k') k ((n:Int) - 1) pa ca ka oa p c core odd pa ca ka oa p c core odd set p c core odd set) v:=by
    intro n;induction n with
    | zero =>
      intro hn hi;refine ⟨none,fun m hm => ?_,fun X0 X1 v hn hs=>Ev2.step (fun k m=>rfl) ?_⟩
      · cases e:so m with
        | false=>rfl
        | true =>
          obtain ⟨u,hu,u1,u2⟩:=hh m hm e;obtain ⟨j,hj,rfl⟩:=List.getElem_of_mem hu;have:=hi m hm ⟨j,hj,Nat.zero_le _,u1,u2⟩;rw [e] at this;cases this
      · simp only [fG.l2,fG.l2T,decide_eq_true_eq]
        exact Ev2.no (by omega) (Ev2.right (hn rfl))
    | succ n ih =>
      intro hn hi;have en:((n+1:Nat):Int) - 1=(n:Int):=by omega
      have hlt:n<set.length:=by omega
      have hrd:=ahj set n hlt;have c1:(n:Int)<(set.length:Int):=by omega
      have c2:(0:Int)≤(n:Int):=by omega
      have hw:wq ((n:Int) - 1)=(n:Int) - 1:=jf (by omega) (by omega);rw [en];obtain ⟨s,hs⟩:∃ s,set[n]=s:=⟨_,rfl⟩;rw [hs] at hrd;obtain ⟨a,a1,a2⟩:=acR h s.f1;have base:∀ m,Ex p c core odd m→gLo p c core odd m≤s.f1→a.2=true∧m≤a.1:=fun m hm hx=>by
        cases e:a.2 with
        | true=>exact ⟨rfl,(a2.y e).2.2 m hm hx⟩
        | false=>exact ((a2.n e).2 m hm hx).elim
      obtain ⟨b,hb1,hb2⟩:∃ b,(a.2=true→b=a.1)∧(a.2=false→b = -1099511627777):=by
        cases a.2 with
        | true=>exact ⟨a.1,fun _=>rfl,(fun q=>by cases q)⟩
        | false=>exact ⟨-1099511627777,(fun q=>by cases q),fun _=>rfl⟩
      obtain ⟨x,x1,x2⟩:=afY (pa:=pa) (ca:=ca) (ka:=ka) (oa:=oa) (γ:=γ) h hso s.f0 s.f1 (a.1+1099511627777).toNat b a.1 a.2 (fun _=>Nat.le_refl _) (fun q=>⟨(a2.y q).1.r,(a2.y q).1.n,Int.le_of_eq (hb1 q).symm,fun m _ hx=>by rw [hb1 q] at hx;exact hx⟩) (fun q=>⟨a.1,(a2.y q).1,Int.le_refl _⟩) (fun q m hm hx=>by have:=hm.r;unfold inR at this;have:=hb2 q;omega);have hb3:∀ m,Ex p c core odd m→gLo p c core odd m≤s.f1→m≤b:=fun m hm hx=>by
        obtain ⟨q1,q2⟩:=base m hm hx;rw [hb1 q1];exact q2
      cases x with
      | some j =>
        obtain ⟨y1,y2,y3,y4,y5⟩:=x1;refine ⟨some j,⟨y1,y3,fun m hm hsm=>Classical.byContradiction fun hgt => ?_⟩,fun X0 X1 v hn hs=>Ev2.step (fun k m=>rfl) ?_⟩
        · obtain ⟨u,hu,u1,u2⟩:=hh m hm hsm
          obtain ⟨i,hi2,rfl⟩:=List.getElem_of_mem hu;rcases Nat.lt_or_ge n i with g | g
          · rw [hi m hm ⟨i,hi2,g,u1,u2⟩] at hsm;cases hsm
          · rcases Nat.lt_or_ge i n with g2 | g2
            · have:=SL.rise hS i n hlt g2
              rw [hs] at this;have:=h.ord j m (by omega) y1.r hm.r y1.n hm.n;omega
            · have:i=n:=by omega
              subst this;rw [hs] at u1 u2;rw [y5 m hm (hb3 m hm u1) (by omega)] at hsm;cases hsm
        · simp only [fG.l2,fG.l2T,decide_eq_true_eq]
          refine Ev2.yes (by omega) (Ev2.yes c2 (Ev2.yes c1 ?_));rw [hrd];unfold YB;refine Ev2.ag8 a1 ?_;exact (x2 _ _ _ _ v (fun e=>by cases e) (fun j' e=>by cases e;exact Ev2.of (hs j rfl))).two'
      | none =>
        obtain ⟨z,z1,z2⟩:=ih (by omega) (fun m hm ⟨i,hi2,g,u1,u2⟩=>by
          rcases Nat.lt_or_ge n i with q | q
          · exact hi m hm ⟨i,hi2,q,u1,u2⟩
          · have:i=n:=by omega
            subst this;rw [hs] at u1 u2;exact x1 m hm (hb3 m hm u1) u2)
        refine ⟨z,z1,fun X0 X1 v hn hs=>Ev2.step (fun k m=>rfl) ?_⟩;have hz:=z2 X0 X1 v hn hs;simp only [fG.l2,fG.l2T,decide_eq_true_eq,hw];refine Ev2.yes (by omega) (Ev2.yes c2 (Ev2.yes c1 ?_));rw [hrd];unfold YB;refine Ev2.ag8 a1 ?_;have hz':=Ev2.swap hz;exact (x2 _ _ _ _ v (fun _=>⟨hz',hz',hz'⟩) (fun j' e=>by cases e)).two'
  have:=loop set.length (Nat.le_refl _) (fun m _ ⟨j,hj,hj2,_⟩=>by omega);rw [jf (n:=(set.length:Int) - 1) (by omega) (by omega)];exact this
end Go.Proofs.YtongeknogcboiaaGreat.Q
namespace Go.Proofs.YtongeknogcboiaaGreat.Q
set_option linter.unusedVariables false
set_option linter.unusedSimpArgs false
open Go.RowKit Go.Proofs.YtongeknogcboiaaGreatW.gq Go.Proofs.YtongeknogcboiaaGreatW.iR M R P
variable {γ:Type} {p c pa ca:Int} {core ka:List (List Sp)} {odd oa:List Gn}
theorem aaE {l:List Sp} {x:Int}:kE l x=true↔∃ s∈l,s.f0≤x∧x≤s.f1:=mK
def inS (l m:List Sp):Bool:=decide (pO (fun a b=>a && !b) l m=[])
def meS (l m:List Sp):Bool:=decide (pO (fun a b=>a&&b) l m≠[])
theorem qY {lo hi:Int} {l:List Sp} (h:SL lo hi l) (hn:l≠[]):∃ x,kE l x=true:=by
  refine Classical.byContradiction fun hx=>hn (h.empty fun x => ?_);rw [Bool.eq_false_iff];exact fun e=>hx ⟨x,e⟩
theorem qb {l m:List Sp} (hl:SL (-1099511627776) 1099511627776 l) (hm:SL (-1099511627776) 1099511627776 m):inS l m=true↔∀ x,kE l x=true→kE m x=true:=by
  obtain ⟨k1,k2⟩:=acy (fun a b=>a && !b) rfl hl hm;unfold inS;rw [decide_eq_true_eq];constructor
  · intro e x hx
    have:=k2 x;rw [e] at this;simp only [qC,hx,Bool.true_and] at this;simpa using this
  · intro e
    refine k1.empty fun x => ?_;rw [k2];cases hx:kE l x with
    | false=>rfl
    | true=>simp [e x hx]
theorem wG {l m:List Sp} (hl:SL (-1099511627776) 1099511627776 l) (hm:SL (-1099511627776) 1099511627776 m):meS l m=true↔∃ x,kE l x=true∧kE m x=true:=by
  obtain ⟨k1,k2⟩:=acy (fun a b=>a&&b) rfl hl hm;unfold meS;rw [decide_eq_true_eq];constructor
  · intro e
    obtain ⟨x,hx⟩:=qY k1 e;rw [k2,Bool.and_eq_true] at hx;exact ⟨x,hx⟩
  · rintro ⟨x,h1,h2⟩ e
    have:=k2 x;rw [e,h1,h2] at this;cases this
theorem aeN {i x:Int} (h:SF p c core odd) (e:Ex p c core odd i) (hx:kE (gT p c core odd i) x=true):gLo p c core odd i≤x∧x≤gHi p c core odd i:=by
  have hs:=h.ng e;obtain ⟨n,f1,f2⟩:=mO (p:=p) e.n;have:=hs.mY hx;omega
theorem acY (h:SF p c core odd) {set:List Sp} (hS:SL (-1099511627776) 1099511627776 set):aha p c core odd (fun m=>meS (gT p c core odd m) set) set:=fun m hm e=>by
  obtain ⟨x,h1,h2⟩:=(wG (h.ng hm) hS).1 e;obtain ⟨s,hs,s1,s2⟩:=mK.1 h2;have:=aeN h hm h1;exact ⟨s,hs,by omega,by omega⟩
theorem acZ (h:SF p c core odd) {set:List Sp} (hS:SL (-1099511627776) 1099511627776 set):aha p c core odd (fun m=>inS (gT p c core odd m) set) set:=fun m hm e=>by
  obtain ⟨x,h1⟩:=qY (h.ng hm) (mO (p:=p) hm.n).1;obtain ⟨s,hs,s1,s2⟩:=mK.1 ((qb (h.ng hm) hS).1 e x h1);have:=aeN h hm h1;exact ⟨s,hs,by omega,by omega⟩
structure BoS (p c:Int) (core:List (List Sp)) (odd:List Gn) (so:Int→Bool) (r:Int × Int × Bool):Prop where
  y:r.2.2=true→(Ex p c core odd r.1∧so r.1=true)∧(Ex p c core odd r.2.1∧so r.2.1=true)∧∀ m,Ex p c core odd m→so m=true→r.1≤m∧m≤r.2.1
  n:r.2.2=false→r.1=0∧r.2.1=0∧∀ m,Ex p c core odd m→so m=false
theorem uS (h:SF p c core odd) (i:Int):SL (-1099511627776) 1099511627776 (thV p c core odd i):=by
  unfold thV;rcases lq h i with ⟨e,e1,e2⟩ | ⟨e,e1⟩
  · rw [e1];exact h.ng e
  · rw [e1];trivial
theorem ac0 (h:FOK p c core odd) {so:Int→Bool} {r1 r2:Option Int} (h1:ag9 p c core odd so r1) (h2:afX p c core odd so r2):BoS p c core odd so (match r1 with | none=>(0,0,false) | some j=>(j,r2.getD 0,true)):=by
  cases r1 with
  | none=>exact ⟨(fun e=>by cases e),fun _=>⟨rfl,rfl,h1⟩⟩
  | some j =>
    obtain ⟨a1,a2,a3⟩:=h1;cases r2 with
    | none=>have:=h2 j a1;rw [a2] at this;cases this
    | some m =>
      obtain ⟨b1,b2,b3⟩:=h2;exact ⟨fun _=>⟨⟨a1,a2⟩,⟨b1,b2⟩,fun q hq hs=>⟨a3 q hq hs,b3 q hq hs⟩⟩,fun e=>by cases e⟩
theorem tK:@fH.l1=@fG.l1:=by kernel_rfl
theorem ac1:@fH.l2=@fG.l2:=by kernel_rfl
theorem ac2:@fH.l3=@fG.l3:=by kernel_rfl
variable [Inhabited WT]
theorem afZ (h:FOK p c core odd) {so:Int→Bool} {set:List Sp} (hS:SL (-1099511627776) 1099511627776 set) (hso:∀ m,Ex p c core odd m→Ev (fun k=>jg.f k (gT p c core odd m) set) (so m)) (hh:aha p c core odd so set) :
    ∃ r,ag9 p c core odd so r∧∀ (X0:Nat→X5T γ) (X1:Nat→X6T γ) (v:γ),(r=none→Ev (fun k=>X1 k pa ca ka oa p c core odd pa ca ka oa p c core odd set p c core odd) v)→(∀ j,r=some j→Ev (fun k=>X0 k pa ca ka oa p c core odd pa ca ka oa p c core odd set p c core odd j) v) →
      Ev2 (fun k k'=>fH.l0 (X0 k') (X1 k') set (set.length:Int) k 0 pa ca ka oa p c core odd pa ca ka oa p c core odd set p c core odd) v:=by
  have hl:set.length≤2199023255553:=by have:=SL.len (lo:=0) hS;omega
  have loop:∀ (rest pre:List Sp),set=pre++rest→(∀ m,Ex p c core odd m→(∃ s∈pre,gLo p c core odd m≤s.f1∧s.f0≤gHi p c core odd m)→so m=false) →
      ∃ r,ag9 p c core odd so r∧∀ (X0:Nat→X5T γ) (X1:Nat→X6T γ) (v:γ),(r=none→Ev (fun k=>X1 k pa ca ka oa p c core odd pa ca ka oa p c core odd set p c core odd) v)→(∀ j,r=some j→Ev (fun k=>X0 k pa ca ka oa p c core odd pa ca ka oa p c core odd set p c core odd j) v) →
        Ev2 (fun k k'=>fH.l0 (X0 k') (X1 k') set (set.length:Int) k (pre.length:Int) pa ca ka oa p c core odd pa ca ka oa p c core odd set p c core odd) v:=by
    intro rest;induction rest with
    | nil =>
      intro pre hp hi;refine ⟨none,fun m hm => ?_,fun X0 X1 v hn hs=>Ev2.step (fun k m=>rfl) ?_⟩
      · cases e:so m with
        | false=>rfl
        | true =>
          have:=hi m hm (by have:=hh m hm e;rw [hp,List.append_nil] at this;exact this);rw [e] at this;cases this
      · have c1:¬ (pre.length:Int)<(set.length:Int):=by rw [hp];simp
        simp only [fH.l0,fH.l0T,tK,decide_eq_true_eq,c1,if_false];exact Ev2.right (hn rfl)
    | cons s r ih =>
      intro pre hp hi;have hlen:pre.length+1≤set.length:=by rw [hp];simp
      have hrd:gS set (pre.length:Int)=s:=by rw [hp];exact rdS _ _ _
      have c1:(pre.length:Int)<(set.length:Int):=by omega
      have c2:(0:Int)≤(pre.length:Int):=by omega
      have hw:=nx c1 c2 (by omega);obtain ⟨a,a1,a2⟩:=wE h s.f0;have hs0:=SL.ticks hS (s:=s) (by rw [hp];simp);have base:∀ m,Ex p c core odd m→s.f0≤gHi p c core odd m→a.2=true∧a.1≤m:=fun m hm hx=>by
        cases e:a.2 with
        | true=>exact ⟨rfl,(a2.y e).2.2 m hm hx⟩
        | false=>exact ((a2.n e).2 m hm hx).elim
      obtain ⟨b,hb1,hb2⟩:∃ b,(a.2=true→b=a.1)∧(a.2=false→b=1099511627777):=by
        cases a.2 with
        | true=>exact ⟨a.1,fun _=>rfl,(fun q=>by cases q)⟩
        | false=>exact ⟨1099511627777,(fun q=>by cases q),fun _=>rfl⟩
      obtain ⟨x,x1,x2⟩:=aeM (pa:=pa) (ca:=ca) (ka:=ka) (oa:=oa) (γ:=γ) h hso s.f0 s.f1 (1099511627777 - a.1).toNat b a.1 a.2 (fun _=>Nat.le_refl _) (fun q=>⟨(a2.y q).1.r,(a2.y q).1.n,Int.le_of_eq (hb1 q),fun m _ hx=>by rw [hb1 q] at hx;exact hx⟩) (fun q=>⟨a.1,(a2.y q).1,Int.le_refl _⟩) (fun q m hm hx=>by have:=hm.r;unfold inR at this;have:=hb2 q;omega);have hb3:∀ m,Ex p c core odd m→s.f0≤gHi p c core odd m→b≤m:=fun m hm hx=>by
        obtain ⟨q1,q2⟩:=base m hm hx;rw [hb1 q1];exact q2
      cases x with
      | some j =>
        obtain ⟨y1,y2,y3,y4,y5⟩:=x1;refine ⟨some j,⟨y1,y3,fun m hm hsm=>Classical.byContradiction fun hlt => ?_⟩,fun X0 X1 v hn hs=>Ev2.step (fun k m=>rfl) ?_⟩
        · obtain ⟨u,hu,u1,u2⟩:=hh m hm hsm
          rw [hp] at hu;rcases List.mem_append.1 hu with hu | hu
          · rw [hi m hm ⟨u,hu,u1,u2⟩] at hsm;cases hsm
          · rcases List.mem_cons.1 hu with rfl | hu
            · rw [y5 m hm (hb3 m hm u2) (by omega)] at hsm;cases hsm
            · have:=SL.after (hp ▸ hS) hu
              have:=h.ord m j (by omega) hm.r y1.r hm.n y1.n;omega
        · simp only [fH.l0,fH.l0T,tK,decide_eq_true_eq,c1,c2,if_true,hrd]
          refine Ev2.pY a1 ?_;exact (x2 _ _ _ _ v (fun e=>by cases e) (fun j' e=>by cases e;exact Ev2.right (hs j rfl))).two
      | none =>
        obtain ⟨z,z1,z2⟩:=ih (pre++[s]) (by rw [hp];simp) (fun m hm ⟨u,hu,u1,u2⟩=>by
          rcases List.mem_append.1 hu with hu | hu
          · exact hi m hm ⟨u,hu,u1,u2⟩
          · simp at hu;subst hu
            exact x1 m hm (hb3 m hm u2) u1)
        refine ⟨z,z1,fun X0 X1 v hn hs=>Ev2.step (fun k m=>rfl) ?_⟩;have hz:=z2 X0 X1 v hn hs;rw [← len1] at hz;simp only [fH.l0,fH.l0T,tK,decide_eq_true_eq,c1,c2,if_true,hrd,hw];refine Ev2.pY a1 ?_;exact (x2 _ _ _ _ v (fun _=>⟨hz,hz,hz⟩) (fun j' e=>by cases e)).two
  exact loop set [] rfl (fun m _ ⟨s,hs,_⟩=>by simp at hs)
theorem aeg (ha:SF pa ca ka oa) (h:FOK p c core odd) (i:Int) (hl:(thV pa ca ka oa i).length≤100000) (hb:∀ m,(gT p c core odd m).length≤100000) :
    ∃ r,Ev (fun k=>fG.f k pa ca ka oa p c core odd i) r∧BoS p c core odd (fun m=>meS (gT p c core odd m) (thV pa ca ka oa i)) r:=by
  have hS:=uS ha i;have hso:∀ m,Ex p c core odd m→Ev (fun k=>jT.f k (gT p c core odd m) (thV pa ca ka oa i)) (meS (gT p c core odd m) (thV pa ca ka oa i)):=fun m _=>afW _ _ (by have:=hb m;omega);obtain ⟨r1,a1,a2⟩:=ahb (pa:=pa) (ca:=ca) (ka:=ka) (oa:=oa) (γ:=Int × Int × Bool) h (so:=fun m=>meS (gT p c core odd m) (thV pa ca ka oa i)) hS hso (acY h.s hS);obtain ⟨r2,b1,b2⟩:=acX (W:=jT.f) (pa:=pa) (ca:=ca) (ka:=ka) (oa:=oa) (γ:=Int × Int × Bool) h (so:=fun m=>meS (gT p c core odd m) (thV pa ca ka oa i)) hS hso (acY h.s hS);refine ⟨_,?_,ac0 h a1 b1⟩;unfold fG.f;refine Ev.bind (mP ha i) ?_;simp only [decide_eq_true_eq];refine (a2 _ _ _ (fun e => ?_) (fun j e => ?_)).diag
  · subst e;exact Ev.now _
  · subst e
    refine (b2 _ _ _ (fun e => ?_) (fun j' e => ?_)).diag
    · subst e;exact Ev.now _
    · subst e;exact Ev.now _
theorem abj (ha:SF pa ca ka oa) (h:FOK p c core odd) (i:Int) (hl:(thV pa ca ka oa i).length≤100000) (hb:∀ m,(gT p c core odd m).length≤100000) :
    ∃ r,Ev (fun k=>fH.f k pa ca ka oa p c core odd i) r∧BoS p c core odd (fun m=>inS (gT p c core odd m) (thV pa ca ka oa i)) r:=by
  have hS:=uS ha i;have hso:∀ m,Ex p c core odd m→Ev (fun k=>jg.f k (gT p c core odd m) (thV pa ca ka oa i)) (inS (gT p c core odd m) (thV pa ca ka oa i)):=fun m _=>yx _ _ (by have:=hb m;omega);obtain ⟨r1,a1,a2⟩:=afZ (pa:=pa) (ca:=ca) (ka:=ka) (oa:=oa) (γ:=Int × Int × Bool) h (so:=fun m=>inS (gT p c core odd m) (thV pa ca ka oa i)) hS hso (acZ h.s hS);obtain ⟨r2,b1,b2⟩:=acX (W:=jg.f) (pa:=pa) (ca:=ca) (ka:=ka) (oa:=oa) (γ:=Int × Int × Bool) h (so:=fun m=>inS (gT p c core odd m) (thV pa ca ka oa i)) hS hso (acZ h.s hS);refine ⟨_,?_,ac0 h a1 b1⟩;unfold fH.f;refine Ev.bind (mP ha i) ?_;simp only [decide_eq_true_eq,ac1,ac2];refine (a2 _ _ _ (fun e => ?_) (fun j e => ?_)).diag
  · subst e;exact Ev.now _
  · subst e
    refine (b2 _ _ _ (fun e => ?_) (fun j' e => ?_)).diag
    · subst e;exact Ev.now _
    · subst e;exact Ev.now _
end Go.Proofs.YtongeknogcboiaaGreat.Q
namespace Go.Proofs.YtongeknogcboiaaGreat.Q
set_option linter.unusedVariables false
set_option linter.unusedSimpArgs false
open Go.RowKit Go.Proofs.YtongeknogcboiaaGreatW.gq Go.Proofs.YtongeknogcboiaaGreatW.iR M R P
section
variable {p c:Int} {core:List (List Sp)} {odd:List Gn}
theorem ac3 {α:Type} (f:α→Int) (b:Int):∀ {l:List α},(∀ x∈l,f x≤b)→(l.map f).sum≤l.length*b
  | [],_=>by simp
  | x :: r,h=>by
    have:=ac3 f b (l:=r) (fun y hy=>h y (by simp [hy]));have:=h x (by simp);rw [List.map_cons,List.sum_cons,List.length_cons];rw [Int.natCast_add,Int.add_mul];omega
theorem zB {α:Type} (f:α→Int) (h0:∀ x,0≤f x):∀ {l:List α} {x:α},x∈l→f x≤(l.map f).sum
  | [],x,h=>by cases h
  | y :: r,x,h=>by
    have hs:0≤(r.map f).sum:=uQ (fun z hz=>by obtain ⟨a,_,rfl⟩:=List.mem_map.1 hz;exact h0 a);rw [List.map_cons,List.sum_cons];rcases List.mem_cons.1 h with rfl | h
    · omega
    · have:=zB f h0 h
      have:=h0 y;omega
theorem af0 (h:SF p c core odd):qW core odd≤9223372036854775807:=by
  have h1:=ac3 (fun l:List Sp=>(l.length:Int)) 2199023255553 (l:=core) (fun l hl=>by have:=SL.len (lo:=0) (h.hcore l hl);omega);have h2:=ac3 (fun g:Gn=>(g.f1.length:Int)) 2199023255553 (l:=odd) (fun g hg=>by have:=SL.len (lo:=0) (h.hodd g hg);omega);have:=h.hl;have:=h.hlo;unfold qW;omega
theorem ahc (h:SF p c core odd) (i:Int):((fs c core odd i).length:Int)≤qW core odd:=by
  have n1:0≤(core.map fun l:List Sp=>(l.length:Int)).sum:=uQ (fun z hz=>by obtain ⟨a,_,rfl⟩:=List.mem_map.1 hz;omega);have n2:0≤(odd.map fun g:Gn=>(g.f1.length:Int)).sum:=uQ (fun z hz=>by obtain ⟨a,_,rfl⟩:=List.mem_map.1 hz;omega);unfold qW;unfold fs;cases ho:jU odd i with
  | some l =>
    obtain ⟨g,hg,_,e⟩:=lT ho;have:=zB (fun g:Gn=>(g.f1.length:Int)) (fun _=>by omega) hg;simp only [e] at this;simp only;omega
  | none =>
    by_cases hc:c=0
    · simp only [iZ,if_pos hc];simp;omega
    · have:=zB (fun l:List Sp=>(l.length:Int)) (fun _=>by omega) (h.nE i hc)
      simp only at this ⊢;omega
theorem aeO (h:SF p c core odd) (i:Int):((gT p c core odd i).length:Int)≤qW core odd:=by
  have:=ahc h i;unfold gT;rw [List.length_map];exact this
theorem af2 (h:SF p c core odd) (i:Int):((thV p c core odd i).length:Int)≤max 0 (qW core odd):=by
  have:=aeO h i;unfold thV;rcases lq h i with ⟨e,e1,e2⟩ | ⟨e,e1⟩
  · rw [e1];simp only;omega
  · rw [e1];simp;omega
theorem ac4 (h:FOK p c core odd) {i k x:Int} (ei:Ex p c core odd i) (ek:Ex p c core odd k) (h1:kE (gT p c core odd i) x=true) (h2:kE (gT p c core odd k) x=true):i=k:=by
  obtain ⟨a1,a2⟩:=o8 h.s ei h1;obtain ⟨b1,b2⟩:=o8 h.s ek h2;rcases Int.lt_trichotomy i k with g | g | g
  · have:=h.ord i k g ei.r ek.r ei.n ek.n;omega
  · exact g
  · have:=h.ord k i g ek.r ei.r ek.n ei.n;omega
theorem qZ {lo hi:Int} {l:List Sp} (h:SL lo hi l) (hn:l≠[]):kE l (lN l)=true:=by
  cases l with
  | nil=>exact absurd rfl hn
  | cons s r=>rw [kR];have:=h.2.1;simp [lN,this]
structure CvS (pa ca:Int) (ka:List (List Sp)) (oa:List Gn) (p c:Int) (core:List (List Sp)) (odd:List Gn) (i:Int) (r:Int × Bool):Prop where
  y:r.2=true→Ex pa ca ka oa i∧Ex p c core odd r.1∧∀ x,kE (gT pa ca ka oa i) x=true→kE (gT p c core odd r.1) x=true
  n:r.2=false→r.1=0∧(Ex pa ca ka oa i→∀ m,Ex p c core odd m→¬ ∀ x,kE (gT pa ca ka oa i) x=true→kE (gT p c core odd m) x=true)
end
variable [Inhabited WT]
variable {p c pa ca:Int} {core ka:List (List Sp)} {odd oa:List Gn}
theorem aib (h:FOK p c core odd) (t:Int):∃ r,Ev (fun k=>lW.f k p c core odd t) r∧AtS p c core odd t r:=by
  obtain ⟨a,a1,a2⟩:=wE h t;unfold lW.f;cases ha:a.2 with
  | false =>
    refine ⟨(0,false),Ev.bind a1 (Ev.yes (by rw [ha];rfl) (Ev.now _)),⟨(fun e=>by cases e),fun _=>⟨rfl,fun m e => ?_⟩⟩⟩;refine Bool.eq_false_iff.2 fun hm => ?_;exact (a2.n ha).2 m e (o8 h.s e hm).2
  | true =>
    obtain ⟨q1,q2,q3⟩:=a2.y ha;have g:=mE h.s a.1;rw [h.s.lu q1] at g;have hs:=h.s.ng q1;have hv:=ag7 (gT p c core odd a.1) t hs (by have:=hs.vV;omega);cases hb:kE (gT p c core odd a.1) t with
    | true =>
      rw [hb] at hv;exact ⟨(a.1,true),Ev.bind a1 (Ev.no (by simp [ha]) (Ev.bind g (Ev.bind hv (Ev.no (by simp) (Ev.now _))))),⟨fun _=>⟨q1,hb⟩,(fun e=>by cases e)⟩⟩
    | false =>
      rw [hb] at hv;refine ⟨(0,false),Ev.bind a1 (Ev.no (by simp [ha]) (Ev.bind g (Ev.bind hv (Ev.yes rfl (Ev.now _))))),⟨(fun e=>by cases e),fun _=>⟨rfl,fun m e => ?_⟩⟩⟩;refine Bool.eq_false_iff.2 fun hm => ?_;obtain ⟨l1,l2⟩:=o8 h.s e hm;have:=afP h a2 e l1 l2;rw [this] at hb;rw [hb] at hm;cases hm
theorem aeh (ha:SF pa ca ka oa) (h:FOK p c core odd) (i:Int) (hl:(thV pa ca ka oa i).length≤100000) (hb:∀ m,(thV p c core odd m).length≤100000) :
    ∃ r,Ev (fun k=>jJ.f k pa ca ka oa p c core odd i) r∧CvS pa ca ka oa p c core odd i r:=by
  simp only [jJ.f,decide_eq_true_eq];rcases lq ha i with ⟨e,e1,e2⟩ | ⟨e,e1⟩
  · have ev:thV pa ca ka oa i=gT pa ca ka oa i:=by unfold thV;rw [e1]
    have hne:¬ ((thV pa ca ka oa i).length:Int)=0:=fun q=>e2 (ev ▸ List.eq_nil_of_length_eq_zero (by omega));have hpos:(0:Int)<((thV pa ca ka oa i).length:Int):=by omega
    have hS:=ha.ng e;have aa:(gS (thV pa ca ka oa i) 0).f0=lN (gT pa ca ka oa i):=by rw [ev];exact (uP _ e2).2
    obtain ⟨a,a1,a2⟩:=aib h (lN (gT pa ca ka oa i));rw [← aa] at a1;cases hx:a.2 with
    | false =>
      refine ⟨(0,false),Ev.bind (mP ha i) (Ev.no hne (Ev.yes hpos (Ev.bind a1 (Ev.yes (by simp [hx]) (Ev.now _))))),(fun q=>by cases q),fun _=>⟨rfl,fun _ m hm q => ?_⟩⟩;have:=q _ (qZ hS e2);rw [(a2.n hx).2 m hm] at this;cases this
    | true =>
      obtain ⟨q1,q2⟩:=a2.y hx;have ek:thV p c core odd a.1=gT p c core odd a.1:=by unfold thV;rw [h.s.lu q1]
      have w:=yx (thV pa ca ka oa i) (thV p c core odd a.1) (by have:=hb a.1;omega);have wi:=qb (uS ha i) (uS h.s a.1);rw [ev,ek] at wi;cases hw:inS (thV pa ca ka oa i) (thV p c core odd a.1) with
      | true =>
        refine ⟨(a.1,true),Ev.bind (mP ha i) (Ev.no hne (Ev.yes hpos (Ev.bind a1 (Ev.no (by simp [hx]) (Ev.bind (mP h.s a.1) (Ev.bind w (Ev.no ?_ (Ev.now _)))))))),fun _=>⟨e,q1,?_⟩,fun q=>by cases q⟩
        · unfold inS at hw;simp [hw]
        · rw [ev,ek] at hw;exact wi.1 hw
      | false =>
        refine ⟨(0,false),Ev.bind (mP ha i) (Ev.no hne (Ev.yes hpos (Ev.bind a1 (Ev.no (by simp [hx]) (Ev.bind (mP h.s a.1) (Ev.bind w (Ev.yes ?_ (Ev.now _)))))))),(fun q=>by cases q),fun _=>⟨rfl,fun _ m hm q => ?_⟩⟩
        · unfold inS at hw;simp [hw]
        · have:m=a.1:=ac4 h hm q1 (q _ (qZ hS e2)) q2
          subst this;rw [ev,ek,wi.2 q] at hw;cases hw
  · have ev:thV pa ca ka oa i=[]:=e1
    refine ⟨(0,false),Ev.bind (mP ha i) (Ev.yes (by rw [ev];rfl) (Ev.now _)),(fun q=>by cases q),fun _=>⟨rfl,fun q=>(e q).elim⟩⟩
theorem abk (m:MF core odd):∃ b,Ev (fun k=>ji.f k p c core odd) b∧(b=true→FOK p c core odd∧GR p c core odd∧core.length≤12∧odd.length≤8∧qW core odd≤60):=by
  have wrong:∀ {P:Prop},false=true→P:=fun e=>by cases e
  unfold ji.f;by_cases hl:(core.length:Int)≤12
  case neg=>exact ⟨false,Ev.bind (a:=false) (Ev.congr (f:=fun _=>some false) (fun k=>by simp [jh.f,hl]) (Ev.now _)) (Ev.now _),wrong⟩
  by_cases hlo:(odd.length:Int)≤8
  case neg=>exact ⟨false,Ev.bind (a:=false) (Ev.congr (f:=fun _=>some false) (fun k=>by simp [jh.f,hl,hlo]) (Ev.now _)) (Ev.now _),wrong⟩
  obtain ⟨n,⟨n1,n2⟩,e,e1,e2,e3,e4⟩:=acP (p:=p) (c:=c) m (by omega) (by omega);have hs:Ev (fun k=>jh.f k p c core odd) (decide (n≤60)):=by
    simp only [jh.f,decide_eq_true_eq,hl,hlo,if_true];exact Ev.bind n1 (Ev.now _)
  by_cases hn:n≤60
  · refine ⟨decide (e=0),Ev.bind hs (Ev.yes (by simpa using hn) (Ev.bind e1 (Ev.now _))),fun he => ?_⟩
    have:=e4.1 (by simpa using he);exact ⟨this.2.fok,this.2,by omega,by omega,by have:=n2 (af0 this.2.s);omega⟩
  · exact ⟨false,Ev.bind hs (Ev.no (by simpa using hn) (Ev.now _)),wrong⟩
end Go.Proofs.YtongeknogcboiaaGreat.Q

/- Lemmas for laws of chapter 7: what the functions that they reach compute. No condition of its own. -/
import Derived.Test.YtmbmalkpmanaaaaGreatYH2
import Derived.Deep.SlicePairs
import Derived.ChangeArms
import Derived.ProofKit
import Derived.Test.YtmbmalkpmanaaaaGreatYH6
import Derived.Test.YtmbmalkpmanaaaaGreatYH11
import Derived.Test.YtmbmalkpmanaaaaGreatYH8
import Derived.Test.YtmbmalkpmanaaaaGreatYH18
import Derived.Test.YtmbmalkpmanaaaaGreatYH17
import Derived.Test.YtmbmalkpmanaaaaGreatYH20
import Derived.Test.YtmbmalkpmanaaaaGreatYH19
import Derived.Test.YtmbmalkpmanaaaaGreatYH21
import Derived.Test.YtmbmalkpmanaaaaGreatYH3
namespace Go.Proofs.YtmbmalkpmanaaaaGreat.P
set_option linter.unusedVariables false
set_option linter.unusedSimpArgs false
open Go.RowKit
def SL (lo hi:Int):List Sp→Prop
  | []=>True
  | s :: r=>lo≤s.f0∧s.f0≤s.f1∧s.f1≤hi∧SL (s.f1+2) hi r
def lY (l:List Sp) (x:Int):Bool:=l.any fun s=>decide (s.f0≤x)&&decide (x≤s.f1)
theorem oo (x:Int):lY [] x=false:=rfl
theorem kP (s:Sp) (r:List Sp) (x:Int):lY (s :: r) x=((decide (s.f0≤x)&&decide (x≤s.f1)) || lY r x):=rfl
theorem oZ (l m:List Sp) (x:Int):lY (l++m) x=(lY l x || lY m x):=by simp [lY]
theorem o8 {l:List Sp} {x:Int}:lY l x=true↔∃ s∈l,s.f0≤x∧x≤s.f1:=by simp [lY]
theorem SL.mono {lo lo' hi:Int} (h:lo'≤lo):∀ {l:List Sp},SL lo hi l→SL lo' hi l
  | [],_=>trivial
  | _ :: _,hs=>⟨by have:=hs.1;omega,hs.2⟩
theorem SL.low {lo hi:Int} {l:List Sp} (hs:SL lo hi l) {x:Int} (hx:x<lo):lY l x=false:=by
  induction l generalizing lo with
  | nil=>rfl
  | cons s r ih =>
    obtain ⟨h1,h2,h3,h4⟩:=hs;rw [kP,ih h4 (by omega)];have:¬ s.f0≤x:=by omega
    simp [this]
theorem SL.high {lo hi:Int} {l:List Sp} (hs:SL lo hi l) {x:Int} (hx:hi<x):lY l x=false:=by
  induction l generalizing lo with
  | nil=>rfl
  | cons s r ih =>
    obtain ⟨h1,h2,h3,h4⟩:=hs;rw [kP,ih h4];have:¬ x≤s.f1:=by omega
    simp [this]
theorem SL.ticks {lo hi:Int} {l:List Sp} (hs:SL lo hi l) {s:Sp} (h:s∈l):lo≤s.f0∧s.f0≤s.f1∧s.f1≤hi:=by
  induction l generalizing lo with
  | nil=>simp at h
  | cons t r ih =>
    obtain ⟨h1,h2,h3,h4⟩:=hs;rcases List.mem_cons.1 h with rfl | h
    · exact ⟨h1,h2,h3⟩
    · obtain ⟨a,b,c⟩:=ih h4 h
      exact ⟨by omega,b,c⟩
theorem SL.uniq {hi hi':Int}:∀ {l m:List Sp} {lo lo':Int},SL lo hi l→SL lo' hi' m→(∀ x,lY l x=lY m x)→l=m
  | [],[],_,_,_,_,_=>rfl
  | [],t :: r,_,_,_,hm,h=>by
    have:=h t.f0;rw [kP] at this;have h2:=hm.2.1;simp [oo,h2] at this
  | s :: r,[],_,_,hl,_,h=>by
    have:=h s.f0;rw [kP] at this;have h2:=hl.2.1;simp [oo,h2] at this
  | s :: r,t :: q,lo,lo',hl,hm,h=>by
    obtain ⟨a1,a2,a3,a4⟩:=hl;obtain ⟨b1,b2,b3,b4⟩:=hm;have key:∀ {s t:Sp} {r q:List Sp} {hi hi':Int},s.f0≤s.f1→t.f0≤t.f1→SL (s.f1+2) hi r→SL (t.f1+2) hi' q→(∀ x,lY (s :: r) x=lY (t :: q) x)→t.f0≤s.f0:=by
      intro s t r q hi hi' a2 b2 a4 b4 h;by_cases hlt:t.f0≤s.f0
      · exact hlt
      · have hx:=h s.f0
        rw [kP,kP,b4.low (by omega)] at hx;have:¬ t.f0≤s.f0:=hlt;simp [this,a2] at hx
    have e0:s.f0=t.f0:=by
      have h1:=key a2 b2 a4 b4 h;have h2:=key b2 a2 b4 a4 (fun x=>(h x).symm);omega
    have key2:∀ {s t:Sp} {r q:List Sp} {hi hi':Int},s.f0=t.f0→s.f0≤s.f1→t.f0≤t.f1→SL (s.f1+2) hi r→SL (t.f1+2) hi' q→(∀ x,lY (s :: r) x=lY (t :: q) x)→t.f1≤s.f1:=by
      intro s t r q hi hi' e0 a2 b2 a4 b4 h;by_cases hlt:t.f1≤s.f1
      · exact hlt
      · have hx:=h (s.f1+1)
        rw [kP,kP,a4.low (by omega)] at hx;have c1:¬ s.f1+1≤s.f1:=by omega
        have c2:t.f0≤s.f1+1:=by omega
        have c3:s.f1+1≤t.f1:=by omega
        simp [c2,c3] at hx
        omega
    have e1:s.f1=t.f1:=by
      have h1:=key2 e0 a2 b2 a4 b4 h;have h2:=key2 e0.symm b2 a2 b4 a4 (fun x=>(h x).symm);omega
    have est:s=t:=by cases s;cases t;simp only at e0 e1;rw [e0,e1]
    subst est;have:r=q:=SL.uniq a4 b4 (fun x=>by
      have hx:=h x;rw [kP,kP] at hx;by_cases hc:x<s.f1+2
      · rw [a4.low hc,b4.low hc]
      · have:¬ x≤s.f1:=by omega
        simpa [this] using hx)
    rw [this]
def Inv (hi:Int) (a:List Sp) (i:Bool) (p:Int):Prop :=
  match a,i with
  | [],i=>i=false
  | s :: r,true=>s.f0≤p∧p≤s.f1∧s.f1≤hi∧SL (s.f1+2) hi r
  | s :: r,false=>SL (p+1) hi (s :: r)
theorem jl {n:Int} (h1 : -9223372036854775808≤n) (h2:n≤9223372036854775807):wrap64 n=n:=by unfold wrap64;omega
theorem Inv.nxt {hi p:Int} {a:List Sp} {i:Bool} (h:Inv hi a i p) (hp : -4611686018427387904≤p) (hh:hi≤4611686018427387904) (hn:a≠[]):p<sD a i∧sD a i≤hi+1:=by
  match a,i,hn with
  | s :: r,true,_ =>
    obtain ⟨h1,h2,h3,h4⟩:=h;have hw:wrap64 (s.f1+1)=s.f1+1:=jl (by omega) (by omega);simp only [sD,hw];omega
  | s :: r,false,_ =>
    obtain ⟨h1,h2,h3,h4⟩:=h;simp only [sD];omega
theorem Inv.step {hi p t:Int} {a:List Sp} {i:Bool} (h:Inv hi a i p) (hp : -4611686018427387904≤p) (hh:hi≤4611686018427387904) (hpt:p<t) (ht:a≠[]→t≤sD a i) :
    Inv hi (l6 a i t).1 (l6 a i t).2 t∧(∀ x,t≤x→lY (l6 a i t).1 x=lY a x)∧(∀ x,p≤x→x<t→lY a x=i):=by
  match a,i with
  | [],i =>
    have:i=false:=h;subst this;exact ⟨rfl,fun _ _=>rfl,fun _ _ _=>rfl⟩
  | s :: r,true =>
    obtain ⟨h1,h2,h3,h4⟩:=h;have hw:wrap64 (s.f1+1)=s.f1+1:=jl (by omega) (by omega);have ht':=ht (by simp);simp only [sD,hw] at ht';have hin:∀ x,p≤x→x<t→lY (s :: r) x=true:=fun x a b=>by
      have c1:s.f0≤x:=by omega
      have c2:x≤s.f1:=by omega
      simp [kP,c1,c2]
    simp only [l6,hw];by_cases e:s.f1+1=t
    · rw [if_pos e]
      refine ⟨?_,fun x hx => ?_,hin⟩
      · cases r with
        | nil=>rfl
        | cons u r=>exact SL.mono (by omega) h4
      · have:¬ x≤s.f1:=by omega
        simp [kP,this]
    · rw [if_neg e]
      exact ⟨⟨by omega,by omega,h3,h4⟩,fun _ _=>rfl,hin⟩
  | s :: r,false =>
    obtain ⟨h1,h2,h3,h4⟩:=h;have ht':=ht (by simp);simp only [sD] at ht';have hout:∀ x,p≤x→x<t→lY (s :: r) x=false:=fun x a b=>by
      have c1:¬ s.f0≤x:=by omega
      rw [kP,h4.low (by omega)];simp [c1]
    simp only [l6];by_cases e:s.f0=t
    · rw [if_pos e]
      exact ⟨⟨by omega,by omega,h3,h4⟩,fun _ _=>rfl,hout⟩
    · rw [if_neg e]
      exact ⟨⟨by omega,h2,h3,h4⟩,fun _ _=>rfl,hout⟩
theorem ab6 (yes:Bool→Bool→Bool) (xs:List Bd):∀ (i:Bool) (f:Int) (o:List Sp),(xs.foldl (p8 yes) ⟨i,f,o⟩).out=o++(xs.foldl (p8 yes) ⟨i,f,[]⟩).out:=by
  induction xs with
  | nil=>intro i f o;simp
  | cons x xs ih =>
    intro i f o;simp only [List.foldl_cons,p8];split
    · exact ih _ _ _
    · split
      · rw [ih _ _ (o++_),ih _ _ ([]++_)];simp
      · exact ih _ _ _
theorem ae7 (yes:Bool→Bool→Bool) (hy:yes false false=false) (hi ah:Int) (hlo : -4611686018427387904≤ah) (hh:hi≤4611686018427387904) (n:Nat):∀ (a:List Sp) (ia:Bool) (b:List Sp) (ib:Bool) (p from_:Int),
    msr a ia+msr b ib≤n→Inv hi a ia p→Inv hi b ib p→ah≤p+1 → -4611686018427387904≤p→(yes ia ib=true→ah≤from_∧from_≤p) →
    SL (if yes ia ib then from_ else p+1) hi ((qm a ia b ib).foldl (p8 yes) ⟨yes ia ib,from_,[]⟩).out ∧
    ∀ x,lY ((qm a ia b ib).foldl (p8 yes) ⟨yes ia ib,from_,[]⟩).out x=if x<p then (yes ia ib&&decide (from_≤x)) else yes (lY a x) (lY b x):=by
  induction n with
  | zero =>
    intro a ia b ib p from_ hm ha hb hp hp2 hf;have e:a=[]∧b=[]:=by
      by_cases e:a=[]∧b=[]
      · exact e
      · have:=tH a ia b ib e;omega
    obtain ⟨rfl,rfl⟩:=e;have h1:ia=false:=ha;have h2:ib=false:=hb;subst h1 h2;rw [qU,hy];refine ⟨trivial,fun x => ?_⟩;simp [oo,hy]
  | succ n ih =>
    intro a ia b ib p from_ hm ha hb hp hp2 hf;by_cases e:a=[]∧b=[]
    · obtain ⟨rfl,rfl⟩:=e
      have h1:ia=false:=ha;have h2:ib=false:=hb;subst h1 h2;rw [qU,hy];refine ⟨trivial,fun x => ?_⟩;simp [oo,hy]
    · have hlt:=tH a ia b ib e
      rw [tJ a ia b ib e];have ht:p<atL a ia b ib∧atL a ia b ib≤hi+1∧(a≠[]→atL a ia b ib≤sD a ia)∧(b≠[]→atL a ia b ib≤sD b ib):=by
        unfold atL;by_cases h1:a=[]
        · have h2:b≠[]:=fun h=>e ⟨h1,h⟩
          rw [if_pos h1];have:=hb.nxt hp2 hh h2;exact ⟨this.1,this.2,fun h=>absurd h1 h,fun _=>Int.le_refl _⟩
        · rw [if_neg h1]
          have q1:=ha.nxt hp2 hh h1;by_cases h2:b=[]
          · rw [if_pos h2]
            exact ⟨q1.1,q1.2,fun _=>Int.le_refl _,fun h=>absurd h2 h⟩
          · rw [if_neg h2]
            have q2:=hb.nxt hp2 hh h2;exact ⟨by omega,by omega,fun _=>by omega,fun _=>by omega⟩
      obtain ⟨t,hte⟩:∃ t,atL a ia b ib=t:=⟨_,rfl⟩;rw [hte] at ht hlt ⊢;obtain ⟨ht1,ht2,ht3,aj⟩:=ht;obtain ⟨af,ha2,ak⟩:=ha.step hp2 hh ht1 ht3;obtain ⟨ag,hb2,hb3⟩:=hb.step hp2 hh ht1 aj;obtain ⟨a1,aa,hpa⟩:∃ a1 aa,l6 a ia t=(a1,aa):=⟨_,_,rfl⟩;obtain ⟨b1,ab,hpb⟩:∃ b1 ab,l6 b ib t=(b1,ab):=⟨_,_,rfl⟩;rw [hpa] at hlt af ha2 ⊢;rw [hpb] at hlt ag hb2 ⊢;dsimp only at hlt af ha2 ag hb2 ⊢;have hw:wrap64 (t - 1)=t - 1:=jl (by omega) (by omega);have hval:∀ x,p≤x→x<t→yes (lY a x) (lY b x)=yes ia ib:=fun x h1 h2=>by rw [ak x h1 h2,hb3 x h1 h2]
      have ae:∀ x,t≤x→yes (lY a1 x) (lY b1 x)=yes (lY a x) (lY b x):=fun x h1=>by rw [ha2 x h1,hb2 x h1]
      simp only [List.foldl_cons];cases hin:yes ia ib with
      | false =>
        cases ac:yes aa ab with
        | true =>
          have hk:p8 yes ⟨false,from_,[]⟩ ⟨t,aa,ab⟩=⟨yes aa ab,t,[]⟩:=by simp [p8,ac]
          rw [hk];obtain ⟨s1,s2⟩:=ih a1 aa b1 ab t t (by omega) af ag (by omega) (by omega) (fun _=>⟨by omega,Int.le_refl _⟩);rw [ac] at s1 s2 ⊢;refine ⟨by simpa using SL.mono (by simp;omega) s1,fun x => ?_⟩;rw [s2 x];by_cases c1:x<p
          · have c2:x<t:=by omega
            have c3:¬ t≤x:=by omega
            simp [c1,c2,c3]
          · by_cases c2:x<t
            · have c3:¬ t≤x:=by omega
              rw [if_neg c1,hval x (by omega) c2,hin];simp [c2,c3]
            · rw [if_neg c1,if_neg c2,ae x (by omega)]
        | false =>
          have hk:p8 yes ⟨false,from_,[]⟩ ⟨t,aa,ab⟩=⟨yes aa ab,from_,[]⟩:=by simp [p8,ac]
          rw [hk];obtain ⟨s1,s2⟩:=ih a1 aa b1 ab t from_ (by omega) af ag (by omega) (by omega) (fun h=>by rw [ac] at h;cases h);rw [ac] at s1 s2 ⊢;refine ⟨by simpa using SL.mono (by simp;omega) s1,fun x => ?_⟩;rw [s2 x];by_cases c1:x<p
          · have c2:x<t:=by omega
            simp [c1,c2]
          · by_cases c2:x<t
            · rw [if_neg c1,hval x (by omega) c2,hin]
              simp [c2]
            · rw [if_neg c1,if_neg c2,ae x (by omega)]
      | true =>
        obtain ⟨hf1,hf2⟩:=hf hin;cases ac:yes aa ab with
        | true =>
          have hk:p8 yes ⟨true,from_,[]⟩ ⟨t,aa,ab⟩=⟨yes aa ab,from_,[]⟩:=by simp [p8,ac]
          rw [hk];obtain ⟨s1,s2⟩:=ih a1 aa b1 ab t from_ (by omega) af ag (by omega) (by omega) (fun _=>⟨hf1,by omega⟩);rw [ac] at s1 s2 ⊢;refine ⟨by simpa using s1,fun x => ?_⟩;rw [s2 x];by_cases c1:x<p
          · have c2:x<t:=by omega
            simp [c1,c2]
          · by_cases c2:x<t
            · have c3:from_≤x:=by omega
              rw [if_neg c1,hval x (by omega) c2,hin];simp [c2,c3]
            · rw [if_neg c1,if_neg c2,ae x (by omega)]
        | false =>
          have hk:p8 yes ⟨true,from_,[]⟩ ⟨t,aa,ab⟩=⟨yes aa ab,from_,[⟨from_,t - 1⟩]⟩:=by simp [p8,ac,hw]
          rw [hk,ab6];obtain ⟨s1,s2⟩:=ih a1 aa b1 ab t from_ (by omega) af ag (by omega) (by omega) (fun h=>by rw [ac] at h;cases h);rw [ac] at s1 s2 ⊢;refine ⟨⟨by simp,by show from_≤t - 1;omega,by show t - 1≤hi;omega,?_⟩,fun x => ?_⟩
          · have:(t - 1:Int)+2=t+1:=by omega
            show SL (t - 1+2) hi _;rw [this];simpa using s1
          · have ai:lY ([⟨from_,t - 1⟩]++(List.foldl (p8 yes) ⟨false,from_,[]⟩ (qm a1 aa b1 ab)).out) x=((decide (from_≤x)&&decide (x≤t - 1)) || lY (List.foldl (p8 yes) ⟨false,from_,[]⟩ (qm a1 aa b1 ab)).out x):=rfl
            rw [ai,s2 x];by_cases c1:x<p
            · have c2:x<t:=by omega
              have c3:x≤t - 1:=by omega
              simp [c1,c2,c3]
            · by_cases c2:x<t
              · have c3:from_≤x:=by omega
                have c4:x≤t - 1:=by omega
                rw [if_neg c1,hval x (by omega) c2,hin];simp [c2,c3,c4]
              · have c4:¬ x≤t - 1:=by omega
                rw [if_neg c1,if_neg c2,ae x (by omega)];simp [c4]
theorem tO (yes:Bool→Bool→Bool) (hy:yes false false=false) {lo hi:Int} (hlo : -4611686018427387903≤lo) (hh:hi≤4611686018427387904) {a b:List Sp} (ha:SL lo hi a) (hb:SL lo hi b) :
    SL lo hi (rC yes a b)∧∀ x,lY (rC yes a b) x=yes (lY a x) (lY b x):=by
  have inv:∀ {a:List Sp},SL lo hi a→Inv hi a false (lo - 1):=by
    intro a h;cases a with
    | nil=>rfl
    | cons s r=>exact SL.mono (by omega) h
  obtain ⟨h1,h2⟩:=ae7 yes hy hi lo (by omega) hh _ a false b false (lo - 1) 0 (Nat.le_refl _) (inv ha) (inv hb) (by omega) (by omega) (fun h=>by rw [hy] at h;cases h);rw [hy] at h1 h2;refine ⟨by simpa [rC,qM] using SL.mono (by simp) h1,fun x => ?_⟩;have:=h2 x;unfold rC qM;rw [this];by_cases c:x<lo - 1
  · rw [if_pos c,ha.low (by omega),hb.low (by omega),hy];simp
  · rw [if_neg c]
def ins:List Int→Int→List Int
  | [],x=>[x]
  | y :: r,x=>if y=x then y :: r else if y>x then x :: y :: r else y :: ins r x
def Up (l:List Int):Prop:=l.Pairwise (· < ·)
theorem aa4 (l:List Int) (x z:Int):z∈ins l x↔z∈l∨z=x:=by
  induction l with
  | nil=>simp [ins]
  | cons y r ih =>
    simp only [ins];by_cases h:y=x
    · rw [if_pos h];subst h;simp;exact fun e=>.inl e
    · rw [if_neg h]
      by_cases h2:y>x
      · rw [if_pos h2];simp;constructor
        · rintro (h | h | h)
          · exact .inr h
          · exact .inl (.inl h)
          · exact .inl (.inr h)
        · rintro ((h | h) | h)
          · exact .inr (.inl h)
          · exact .inr (.inr h)
          · exact .inl h
      · rw [if_neg h2];simp [ih,or_assoc]
theorem acN {l:List Int} (h:Up l) (x:Int):Up (ins l x):=by
  induction l with
  | nil=>simp [ins,Up]
  | cons y r ih =>
    have hy:=(List.pairwise_cons.1 h);simp only [ins];by_cases h1:y=x
    · rw [if_pos h1];exact h
    · rw [if_neg h1]
      by_cases h2:y>x
      · rw [if_pos h2]
        refine List.pairwise_cons.2 ⟨fun z hz => ?_,h⟩;rcases List.mem_cons.1 hz with rfl | hz
        · exact h2
        · exact Int.lt_trans h2 (hy.1 z hz)
      · rw [if_neg h2]
        refine List.pairwise_cons.2 ⟨fun z hz => ?_,ih hy.2⟩;rcases (aa4 r x z).1 hz with hz | rfl
        · exact hy.1 z hz
        · omega
theorem tQ (l:List Int) (x:Int):(ins l x).length≤l.length+1:=by
  induction l with
  | nil=>simp [ins]
  | cons y r ih =>
    simp only [ins];split
    · simp
    · split <;> simp;omega
def plc:List Sp→List Int→List Int
  | [],p=>p
  | s :: r,p=>plc r (ins (ins p s.f0) (s.f1+1))
theorem wJ (l:List Sp):∀ (p:List Int) (z:Int),z∈plc l p↔z∈p∨∃ s∈l,z=s.f0∨z=s.f1+1:=by
  induction l with
  | nil=>intro p z;simp [plc]
  | cons s r ih =>
    intro p z;simp only [plc,ih,aa4,List.mem_cons];constructor
    · rintro (((h | h) | h) | ⟨t,ht,h⟩)
      · exact .inl h
      · exact .inr ⟨s,.inl rfl,.inl h⟩
      · exact .inr ⟨s,.inl rfl,.inr h⟩
      · exact .inr ⟨t,.inr ht,h⟩
    · rintro (h | ⟨t,rfl | ht,h⟩)
      · exact .inl (.inl (.inl h))
      · rcases h with h | h
        · exact .inl (.inl (.inr h))
        · exact .inl (.inr h)
      · exact .inr ⟨t,ht,h⟩
theorem acO (l:List Sp):∀ {p:List Int},Up p→Up (plc l p):=by
  induction l with
  | nil=>intro p h;exact h
  | cons s r ih=>intro p h;exact ih (acN (acN h _) _)
theorem aa5 (l:List Sp):∀ (p:List Int),(plc l p).length≤p.length+2*l.length:=by
  induction l with
  | nil=>intro p;simp [plc]
  | cons s r ih =>
    intro p;have h1:=ih (ins (ins p s.f0) (s.f1+1));have h2:=tQ (ins p s.f0) (s.f1+1);have h3:=tQ p s.f0;simp only [plc,List.length_cons];omega
def join (out:List Sp) (x y:Int):List Sp :=
  match out.reverse with
  | []=>[⟨x,y - 1⟩]
  | z :: o=>if z.f1=x - 1 then o.reverse++[⟨z.f0,y - 1⟩] else out++[⟨x,y - 1⟩]
theorem join_nil (x y:Int):join [] x y=[⟨x,y - 1⟩]:=rfl
theorem uS (o:List Sp) (z:Sp) (x y:Int):join (o++[z]) x y=if z.f1=x - 1 then o++[⟨z.f0,y - 1⟩] else o++[z]++[⟨x,y - 1⟩]:=by
  simp [join]
def uT (q:Int→Bool):List Sp→List Int→List Sp
  | out,x :: y :: r=>uT q (if q x then join out x y else out) (y :: r)
  | out,_=>out
theorem tT {lo hi:Int} {o:List Sp} {z:Sp}:SL lo hi (o++[z])↔SL lo hi o∧(∀ s∈o,s.f1+2≤z.f0)∧lo≤z.f0∧z.f0≤z.f1∧z.f1≤hi:=by
  induction o generalizing lo with
  | nil=>simp [SL]
  | cons t o ih =>
    simp only [List.cons_append,SL,ih,List.mem_cons];constructor
    · rintro ⟨h1,h2,h3,h4,h5,h6,h7,h8⟩
      exact ⟨⟨h1,h2,h3,h4⟩,fun s hs=>by rcases hs with rfl | hs;exact h6;exact h5 s hs,by omega,h7,h8⟩
    · rintro ⟨⟨h1,h2,h3,h4⟩,h5,h6,h7,h8⟩
      exact ⟨h1,h2,h3,h4,fun s hs=>h5 s (.inr hs),h5 t (.inl rfl),h7,h8⟩
theorem aa6 {lo hi:Int} {out:List Sp} {x y:Int} (hs:SL lo hi out) (hb:∀ s∈out,s.f1≤x - 1) (hx:lo≤x) (hxy:x<y) (hy:y - 1≤hi) :
    SL lo hi (join out x y)∧(∀ s∈join out x y,s.f1≤y - 1)∧∀ t,lY (join out x y) t=(lY out t || (decide (x≤t)&&decide (t<y))):=by
  have hdec:∀ t:Int,decide (t≤y - 1)=decide (t<y):=fun t=>by
    by_cases h:t<y
    · have:t≤y - 1:=by omega
      simp [h,this]
    · have:¬ t≤y - 1:=by omega
      simp [h,this]
  rcases List.eq_nil_or_concat out with rfl | ⟨o,z,rfl⟩
  · rw [join_nil]
    refine ⟨⟨hx,by show x≤y - 1;omega,hy,trivial⟩,fun s h=>by simp at h;subst h;exact Int.le_refl _,fun t => ?_⟩;simp [lY,hdec]
  · rw [List.concat_eq_append] at *
    obtain ⟨h1,h2,h3,h4,h5⟩:=tT.1 hs;have hz:=hb z (by simp);rw [uS];by_cases e:z.f1=x - 1
    · rw [if_pos e]
      refine ⟨tT.2 ⟨h1,h2,h3,by show z.f0≤y - 1;omega,hy⟩,fun s h => ?_,fun t => ?_⟩
      · simp at h
        rcases h with h | rfl
        · have:=hb s (by simp [h]);omega
        · exact Int.le_refl _
      · rw [oZ,oZ]
        simp only [kP,oo,Bool.or_false,hdec];rw [Bool.or_assoc];congr 1;by_cases c:t<x
        · have a1:t<y:=by omega
          have a2:t≤z.f1:=by omega
          have a3:¬ x≤t:=by omega
          simp [a1,a2,a3]
        · have a2:¬ t≤z.f1:=by omega
          have a3:x≤t:=by omega
          have a4:z.f0≤t:=by omega
          simp [a2,a3,a4]
    · rw [if_neg e]
      refine ⟨tT.2 ⟨hs,fun s h => ?_,hx,by show x≤y - 1;omega,hy⟩,fun s h => ?_,fun t => ?_⟩
      · simp at h
        rcases h with h | rfl
        · have:=h2 s h;show s.f1+2≤x;omega
        · show s.f1+2≤x;omega
      · simp at h
        rcases h with h | rfl | rfl
        · have:=hb s (by simp [h]);omega
        · have:=hb s (by simp);omega
        · exact Int.le_refl _
      · rw [oZ]
        simp only [kP,oo,Bool.or_false,hdec]
theorem aag {lo hi:Int} (q:Int→Bool):∀ (p:List Int) (out:List Sp) (x:Int),Up (x :: p)→SL lo hi out→(∀ s∈out,s.f1≤x - 1)→lo≤x→(∀ z∈x :: p,z - 1≤hi) →
    (∀ t,t<x→lY out t=q t)→(∀ (u:Int),u∈x :: p→∀ t,u≤t→(∀ v,v∈x :: p→v≤u∨t<v)→q t=q u)→(∀ t,(∀ v∈x :: p,v≤t)→q t=false) →
    SL lo hi (uT q out (x :: p))∧∀ t,lY (uT q out (x :: p)) t=q t:=by
  intro p;induction p with
  | nil =>
    intro out x hu hs hb hx hh hq hc hz;refine ⟨hs,fun t => ?_⟩;by_cases h:t<x
    · exact hq t h
    · have:lY out t=false:=by
        rw [Bool.eq_false_iff];intro e;obtain ⟨s,h1,_,h2⟩:=o8.1 e;have:=hb s h1;omega
      show lY out t=q t;rw [this,hz t (fun v hv=>by simp at hv;omega)]
  | cons y r ih =>
    intro out x hu hs hb hx hh hq hc hz;obtain ⟨hu1,hu2⟩:=List.pairwise_cons.1 hu;have hxy:x<y:=hu1 y (by simp);have ab:=(List.pairwise_cons.1 hu2).1;have hseg:∀ t,x≤t→t<y→q t=q x:=fun t h1 h2=>hc x (by simp) t h1 (fun v hv=>by
      rcases List.mem_cons.1 hv with rfl | hv
      · exact .inl (Int.le_refl _)
      · rcases List.mem_cons.1 hv with rfl | hv
        · exact .inr h2
        · exact .inr (Int.lt_trans h2 (ab v hv)))
    show SL lo hi (uT q (if q x then join out x y else out) (y :: r))∧∀ t,lY (uT q (if q x then join out x y else out) (y :: r)) t=q t;have common:∀ out':List Sp,SL lo hi out'→(∀ s∈out',s.f1≤y - 1)→(∀ t,t<y→lY out' t=q t)→SL lo hi (uT q out' (y :: r))∧∀ t,lY (uT q out' (y :: r)) t=q t:=by
      intro out' a1 a2 a3;refine ih out' y hu2 a1 a2 (by omega) (fun z hz'=>hh z (by simp at hz' ⊢;exact .inr hz')) a3 (fun u hu' t h1 h2=>hc u (by simp at hu' ⊢;exact .inr hu') t h1 (fun v hv => ?_)) (fun t ht=>hz t (fun v hv => ?_))
      · rcases List.mem_cons.1 hv with rfl | hv
        · refine .inl ?_
          rcases List.mem_cons.1 hu' with rfl | hu'
          · omega
          · have:=ab u hu';omega
        · exact h2 v hv
      · rcases List.mem_cons.1 hv with rfl | hv
        · have:=ht y (by simp);omega
        · exact ht v hv
    by_cases aa:q x=true
    · rw [if_pos aa]
      obtain ⟨j1,j2,j3⟩:=aa6 hs hb hx hxy (hh y (by simp));refine common _ j1 j2 (fun t ht => ?_);rw [j3];by_cases c:t<x
      · have:¬ x≤t:=by omega
        rw [hq t c];simp [this]
      · have:x≤t:=by omega
        rw [hseg t this ht,aa];simp [this,ht]
    · rw [if_neg aa]
      refine common _ hs (fun s h=>by have:=hb s h;omega) (fun t ht => ?_);by_cases c:t<x
      · exact hq t c
      · rw [hseg t (by omega) ht]
        have h1:q x=false:=by simpa using aa
        have h2:lY out t=false:=by
          rw [Bool.eq_false_iff];intro e;obtain ⟨s,h1,_,h2⟩:=o8.1 e;have:=hb s h1;omega
        rw [h1,h2]
theorem xP {a:List Sp} {u t:Int} (p:List Int) (hp:∀ s∈a,s.f0∈p∧s.f1+1∈p) (hut:u≤t) (h:∀ v∈p,v≤u∨t<v):lY a t=lY a u:=by
  induction a with
  | nil=>rfl
  | cons s a ih =>
    rw [kP,kP,ih (fun s' hs'=>hp s' (by simp [hs']))];obtain ⟨h1,h2⟩:=hp s (by simp);have e1:decide (s.f0≤t)=decide (s.f0≤u):=by
      rcases h _ h1 with h | h
      · have a:s.f0≤t:=by omega
        simp [h,a]
      · have a:¬ s.f0≤t:=by omega
        have b:¬ s.f0≤u:=by omega
        simp [a,b]
    have e2:decide (t≤s.f1)=decide (u≤s.f1):=by
      rcases h _ h2 with h | h
      · have a:¬ t≤s.f1:=by omega
        have b:¬ u≤s.f1:=by omega
        simp [a,b]
      · have a:t≤s.f1:=by omega
        have b:u≤s.f1:=by omega
        simp [a,b]
    rw [e1,e2]
theorem yL (yes:Bool→Bool→Bool) (hy:yes false false=false) {lo hi:Int} {a b:List Sp} (ha:∀ s∈a,lo≤s.f0∧s.f0≤s.f1∧s.f1≤hi) (hb:∀ s∈b,lo≤s.f0∧s.f0≤s.f1∧s.f1≤hi) :
    SL lo hi (uT (fun x=>yes (lY a x) (lY b x)) [] (plc b (plc a [])))∧∀ t,lY (uT (fun x=>yes (lY a x) (lY b x)) [] (plc b (plc a []))) t=yes (lY a t) (lY b t):=by
  have hup:Up (plc b (plc a [])):=acO b (acO a List.Pairwise.nil);have hmem:∀ z,z∈plc b (plc a [])↔(∃ s∈a,z=s.f0∨z=s.f1+1)∨∃ s∈b,z=s.f0∨z=s.f1+1:=fun z=>by rw [wJ,wJ];simp
  have hpa:∀ s∈a,s.f0∈plc b (plc a [])∧s.f1+1∈plc b (plc a []):=fun s hs=>⟨(hmem _).2 (.inl ⟨s,hs,.inl rfl⟩),(hmem _).2 (.inl ⟨s,hs,.inr rfl⟩)⟩;have hpb:∀ s∈b,s.f0∈plc b (plc a [])∧s.f1+1∈plc b (plc a []):=fun s hs=>⟨(hmem _).2 (.inr ⟨s,hs,.inl rfl⟩),(hmem _).2 (.inr ⟨s,hs,.inr rfl⟩)⟩;have hout:∀ {a:List Sp} {p:List Int},(∀ s∈a,s.f0∈p∧s.f1+1∈p)→∀ t,((∀ v∈p,v≤t)∨∀ v∈p,t<v)→lY a t=false:=by
    intro a p h t ht;rw [Bool.eq_false_iff];intro e;obtain ⟨s,h1,h2,h3⟩:=o8.1 e;obtain ⟨h4,h5⟩:=h s h1;rcases ht with ht | ht
    · have:=ht _ h5;omega
    · have:=ht _ h4;omega
  have hrange:∀ z∈plc b (plc a []),lo≤z∧z - 1≤hi:=by
    intro z hz;rcases (hmem z).1 hz with ⟨s,hs,h⟩ | ⟨s,hs,h⟩
    · have:=ha s hs;rcases h with rfl | rfl <;> omega
    · have:=hb s hs;rcases h with rfl | rfl <;> omega
  cases hp:plc b (plc a []) with
  | nil =>
    have ea:∀ t,lY a t=false:=fun t=>hout hpa t (.inl (by rw [hp];simp));have eb:∀ t,lY b t=false:=fun t=>hout hpb t (.inl (by rw [hp];simp));refine ⟨trivial,fun t => ?_⟩;rw [ea,eb,hy];rfl
  | cons x p =>
    rw [hp] at hup hpa hpb hrange;refine aag _ p [] x hup trivial (by simp) (hrange x (by simp)).1 (fun z hz=>(hrange z hz).2) (fun t ht => ?_) (fun u hu t h1 h2 => ?_) (fun t ht => ?_)
    · have hlt:∀ v∈x :: p,t<v:=fun v hv=>by
        rcases List.mem_cons.1 hv with rfl | hv
        · exact ht
        · exact Int.lt_trans ht ((List.pairwise_cons.1 hup).1 v hv)
      rw [hout hpa t (.inr hlt),hout hpb t (.inr hlt),hy];rfl
    · rw [xP _ hpa h1 h2,xP _ hpb h1 h2]
    · rw [hout hpa t (.inl ht),hout hpb t (.inl ht),hy]
def glue (out:List Sp) (s:Sp):List Sp :=
  match out.reverse with
  | []=>[s]
  | z :: o=>if s.f0≤z.f1+1 then o.reverse++[⟨z.f0,max z.f1 s.f1⟩] else out++[s]
theorem wK (s:Sp):glue [] s=[s]:=rfl
theorem sH (o:List Sp) (z s:Sp):glue (o++[z]) s=if s.f0≤z.f1+1 then o++[⟨z.f0,max z.f1 s.f1⟩] else o++[z]++[s]:=by simp [glue]
theorem aa7 {lo hi:Int} {out:List Sp} {s:Sp} (hs:SL lo hi out) (hb:∀ z∈out,z.f0≤s.f0) (h0:lo≤s.f0) (h1:s.f0≤s.f1) (h2:s.f1≤hi) :
    SL lo hi (glue out s)∧(∀ z∈glue out s,z.f0≤s.f0)∧∀ t,lY (glue out s) t=(lY out t || (decide (s.f0≤t)&&decide (t≤s.f1))):=by
  rcases List.eq_nil_or_concat out with rfl | ⟨o,z,rfl⟩
  · rw [wK]
    exact ⟨⟨h0,h1,h2,trivial⟩,fun z h=>by simp at h;subst h;exact Int.le_refl _,fun t=>by simp [lY]⟩
  · rw [List.concat_eq_append] at *
    obtain ⟨a1,a2,a3,a4,a5⟩:=tT.1 hs;have hz:=hb z (by simp);rw [sH];by_cases e:s.f0≤z.f1+1
    · rw [if_pos e]
      refine ⟨tT.2 ⟨a1,a2,a3,by show z.f0≤max z.f1 s.f1;omega,by show max z.f1 s.f1≤hi;omega⟩,fun u h => ?_,fun t => ?_⟩
      · simp at h
        rcases h with h | rfl
        · exact hb u (by simp [h])
        · exact hz
      · rw [oZ,oZ]
        simp only [kP,oo,Bool.or_false];rw [Bool.or_assoc];congr 1;rw [Bool.eq_iff_iff];simp only [Bool.and_eq_true,Bool.or_eq_true,decide_eq_true_eq];omega
    · rw [if_neg e]
      refine ⟨tT.2 ⟨hs,fun u h => ?_,h0,h1,h2⟩,fun u h => ?_,fun t => ?_⟩
      · simp at h
        rcases h with h | rfl
        · have:=a2 u h;omega
        · omega
      · simp at h
        rcases h with h | rfl | rfl
        · exact hb u (by simp [h])
        · exact hz
        · exact Int.le_refl _
      · rw [oZ];simp [kP,oo]
theorem xQ {lo hi:Int}:∀ (l out:List Sp),SL lo hi out→(∀ s∈l,lo≤s.f0∧s.f0≤s.f1∧s.f1≤hi)→(∀ z∈out,∀ s∈l,z.f0≤s.f0)→l.Pairwise (fun x y=>x.f0≤y.f0) →
    SL lo hi (l.foldl glue out)∧∀ t,lY (l.foldl glue out) t=(lY out t || lY l t):=by
  intro l;induction l with
  | nil=>intro out hs _ _ _;exact ⟨hs,fun t=>by simp [oo]⟩
  | cons s r ih =>
    intro out hs hl hb hp;obtain ⟨p1,p2⟩:=List.pairwise_cons.1 hp;obtain ⟨b0,b1,b2⟩:=hl s (by simp);obtain ⟨g1,g2,g3⟩:=aa7 hs (fun z hz=>hb z hz s (by simp)) b0 b1 b2;obtain ⟨i1,i2⟩:=ih (glue out s) g1 (fun u hu=>hl u (by simp [hu])) (fun z hz u hu=>Int.le_trans (g2 z hz) (p1 u hu)) p2;refine ⟨i1,fun t => ?_⟩;simp only [List.foldl_cons];rw [i2,g3,kP,Bool.or_assoc]
theorem zB (out:List Sp) (s:Sp):(glue out s).length≤out.length+1:=by
  rcases List.eq_nil_or_concat out with rfl | ⟨o,z,rfl⟩
  · simp [wK]
  · rw [List.concat_eq_append,sH];split <;> simp
theorem aa8 {l m:List Sp} (h:l.Perm m) (x:Int):lY l x=lY m x:=by
  rw [Bool.eq_iff_iff,o8,o8];exact ⟨fun ⟨s,h1,h2⟩=>⟨s,h.mem_iff.1 h1,h2⟩,fun ⟨s,h1,h2⟩=>⟨s,h.mem_iff.2 h1,h2⟩⟩
end Go.Proofs.YtmbmalkpmanaaaaGreat.P
namespace Go.Proofs.YtmbmalkpmanaaaaGreat.P
set_option linter.unusedVariables false
set_option linter.unusedSimpArgs false
open Go.RowKit Go.ChangeShapes Go.WideShapes Go.Deep Go.Proofs.YtmbmalkpmanaaaaGreatW.iD
def fits (n:Int):Prop:=(Lit.int .i64 n).wf=true
def qX (s:Sp):Prop:=fits s.f0∧fits s.f1
theorem aah {H:Type} {enc:TypeId × Value→H} {w:World} {base:Nat} {held:Bool} {a:Option Addr} {len cap:Nat} {d:DataW H} {p:List MemPlace}
    (h:DataW.Trod enc Tryz.prog w base (fun _=>true) held 27 (.slice a len cap) d p) :
    ∃ l:List Sp,len=l.length∧l.length≤cap∧Kd.C k38 w a l.length l∧(∀ s∈l,qX s)∧l.length≤9223372036854775807:=by
  obtain ⟨fuel,hf⟩:=h;rcases open_slice_pairs Tryz.underlying27 Tryz.underlying38 (by kernel_rfl) rfl rfl (by kernel_rfl) (by kernel_rfl) hf with ⟨hc,_⟩ | ⟨ad,len',cap',m,n,V0,V1,D0,D1,P0,P1,hc,hb,hl,hm,hmm,hx,hi⟩
  · simp [Value.cells] at hc
    obtain ⟨rfl,rfl,rfl⟩:=hc;exact ⟨[],rfl,Nat.le_refl _,⟨rfl,by simp,fun h=>absurd h (by simp)⟩,by simp,by simp⟩
  · simp [Value.cells] at hc
    obtain ⟨rfl,rfl,rfl⟩:=hc;have hlm:len≤m:=by rw [hmm];simpa using hl
    have hk:∀ i,i<len→∃ s:Sp,w.cell? (ad.add (i*2))=some (.int .i64 s.f0)∧w.cell? (ad.add (i*2+1))=some (.int .i64 s.f1)∧qX s:=by
      intro i hi';obtain ⟨c0,c1,t0,t1⟩:=hi i (by omega);obtain ⟨x,e0,_,w0⟩:=DataW.trod_int Tryz.underlying3 t0;obtain ⟨y,e1,_,w1⟩:=DataW.trod_int Tryz.underlying3 t1;simp only [List.cons.injEq,and_true] at e0 e1;exact ⟨⟨x,y⟩,by rw [c0,e0],by rw [c1,e1],w0,w1⟩
    have hmax:len≤9223372036854775807:=by unfold maxLen at hm;omega
    suffices key:∀ k,k≤len→∃ l:List Sp,l.length=k∧(∀ j s,l[j]? = some s→w.cell? (ad.add (j*2))=some (.int .i64 s.f0)∧w.cell? (ad.add (j*2+1))=some (.int .i64 s.f1))∧∀ s∈l,qX s by
      obtain ⟨l,rfl,hl2,hfit⟩:=key len (Nat.le_refl _);refine ⟨l,rfl,hl,⟨rfl,hmax,fun _=>⟨ad,rfl,fun j s hj=>⟨[.int .i64 s.f0,.int .i64 s.f1],rfl,acH w s,fun i u hu => ?_⟩⟩⟩,hfit,hmax⟩;have:=hl2 j s hj
      match i,hu with
      | 0,hu=>simp at hu;subst hu;exact this.1
      | 1,hu=>simp at hu;subst hu;exact this.2
    intro k;induction k with
    | zero=>exact fun _=>⟨[],rfl,fun j s h=>by simp at h,by simp⟩
    | succ k ih =>
      intro hk';obtain ⟨l,hl1,hl2,hl3⟩:=ih (by omega);obtain ⟨s,h0,h1,h2⟩:=hk k (by omega);refine ⟨l++[s],by simp [hl1],fun j t hj => ?_,fun t ht => ?_⟩
      · by_cases hjk:j<l.length
        · rw [List.getElem?_append_left hjk] at hj;exact hl2 j t hj
        · rw [List.getElem?_append_right (by omega)] at hj
          have:j - l.length=0:=by
            by_cases e:j - l.length=0
            · exact e
            · rw [List.getElem?_eq_none (by simp;omega)] at hj;cases hj
          rw [this] at hj;simp at hj;subst hj;have:j=k:=by omega
          subst this;exact ⟨h0,h1⟩
      · simp at ht
        rcases ht with ht | rfl
        · exact hl3 t ht
        · exact h2
end Go.Proofs.YtmbmalkpmanaaaaGreat.P
namespace Go.Proofs.YtmbmalkpmanaaaaGreat.P
set_option linter.unusedVariables false
set_option linter.unusedSimpArgs false
open Go.RowKit Go.Proofs.YtmbmalkpmanaaaaGreatW.iD
theorem pW (pre r:List Sp) (s:Sp):gN (pre++s :: r) (pre.length:Int)=s:=by simp [gN]
theorem nU {α:Type} (pre:List α) (s:α) (n:Nat) (h:pre.length+1≤n) (hn:n≤9223372036854775807):wrap64 ((pre.length:Int)+1)=((pre++[s]).length:Int):=by
  rw [jl (by omega) (by omega)];simp
theorem sI {α:Type} (pre:List α) (s:α) (n:Nat) (h:pre.length+1≤n) (hn:n≤9223372036854775807):wrap64 (((pre++[s]).length:Int) - 1)=(pre.length:Int):=by
  rw [jl (by simp only [List.length_append,List.length_singleton];omega) (by simp only [List.length_append,List.length_singleton];omega)];simp
def slB (lo:Int):List Sp→Bool
  | []=>true
  | s :: r=>decide (lo≤s.f0)&&(decide (s.f0≤s.f1)&&(decide (s.f1≤1099511627776)&&slB (s.f1+2) r))
theorem uU {lo:Int} {l:List Sp}:slB lo l=true↔SL lo 1099511627776 l:=by
  induction l generalizing lo with
  | nil=>simp [slB,SL]
  | cons s r ih=>simp [slB,SL,ih]
theorem nZ (a:Int):jQ.f a=some (decide (-1099511627776≤a)&&decide (a≤1099511627776)):=by
  unfold jQ.f;by_cases h:a ≥ -1099511627776
  · have h2 : -1099511627776≤a:=h
    rw [if_pos h];simp [h2]
  · have h2:¬ -1099511627776≤a:=h
    rw [if_neg h];simp [h2]
theorem uz (l:List Sp) (hl:l.length≤9223372036854775807):Ev (fun k=>iO.f k l) (slB (-1099511627776) l):=by
  have key:∀ (rest pre:List Sp) (lo:Int),l=pre++rest→(pre=[]∧lo = -1099511627776∨∃ p q,pre=p++[q]∧lo=q.f1+2 ∧ -1099511627776≤q.f1∧q.f1≤1099511627776) →
      Ev (fun k=>iO.l0 k l l (l.length:Int) (pre.length:Int)) (slB lo rest):=by
    intro rest;induction rest with
    | nil =>
      intro pre lo hp hlo;refine Ev.step (f:=fun _=>some true) (fun k => ?_) (Ev.now _);rw [iO.l0,if_neg (by rw [hp];simp)]
    | cons s r ih =>
      intro pre lo hp hlo;have hlen:pre.length+1≤l.length:=by rw [hp];simp
      have hrd:gN l (pre.length:Int)=s:=by rw [hp];exact pW _ _ _
      have h0:∀ k,iO.l0 (k+1) l l (l.length:Int) (pre.length:Int)=iO.l0 (k+1) l l (l.length:Int) (pre.length:Int):=fun _=>rfl;have hlow : -1099511627776≤lo:=by rcases hlo with ⟨_,rfl⟩ | ⟨p,q,_,rfl,h,_⟩ <;> omega
      have c1:(pre.length:Int)<(l.length:Int):=by omega
      have c2:(0:Int)≤(pre.length:Int):=by omega
      by_cases t0 : -1099511627776≤s.f0∧s.f0≤1099511627776
      · by_cases t1 : -1099511627776≤s.f1∧s.f1≤1099511627776
        · by_cases t2:s.f0>s.f1
          · refine Ev.step (f:=fun _=>some (slB lo (s :: r))) (fun k => ?_) (Ev.now _)
            have hn:¬ s.f0≤s.f1:=by omega
            rw [iO.l0,if_pos c1,if_pos c2,if_pos c1,hrd,nZ,nZ];simp [t0,t1,t2,slB,hn]
          · have hn:s.f0≤s.f1:=by omega
            rcases hlo with ⟨rfl,rfl⟩ | ⟨p,q,rfl,rfl,hq1,hq2⟩
            · have hs:slB (-1099511627776) (s :: r)=slB (s.f1+2) r:=by simp [slB,t0,t1,hn]
              rw [hs];refine Ev.step (fun k => ?_) (ih [s] (s.f1+2) hp (.inr ⟨[],s,rfl,rfl,t1.1,t1.2⟩));rw [iO.l0,if_pos c1,if_pos c2,if_pos c1,hrd,nZ,nZ];have hw:wrap64 (([]:List Sp).length+1:Int)=(([s]:List Sp).length:Int):=by simpa using jl (n:=1) (by omega) (by omega)
              simp only [t0,t1,decide_true,Bool.and_self,Option.bind_some,if_true];rw [if_neg t2,if_neg (by simp),hw]
            · have hw:=nU (p++[q]) s l.length hlen hl
              have hwp:=sI p q l.length (by simp at hlen;omega) hl;have hrq:gN l (p.length:Int)=q:=by rw [hp];simp [gN]
              have hw2:wrap64 (q.f1+2)=q.f1+2:=jl (by omega) (by omega);have c3:(p.length:Int)<(l.length:Int):=by simp at hlen;omega
              by_cases t3:s.f0<q.f1+2
              · refine Ev.step (f:=fun _=>some (slB (q.f1+2) (s :: r))) (fun k => ?_) (Ev.now _)
                have aa:¬ q.f1+2≤s.f0:=by omega
                rw [iO.l0,if_pos c1,if_pos c2,if_pos c1,hrd,nZ,nZ];simp only [t0,t1,decide_true,Bool.and_self,Option.bind_some,if_true];rw [if_neg t2,if_pos (by simp),hwp,if_pos (by omega),if_pos c3,hrq,hw2,if_pos t3];simp [slB,aa]
              · have aa:q.f1+2≤s.f0:=by omega
                have hs:slB (q.f1+2) (s :: r)=slB (s.f1+2) r:=by simp [slB,t1,hn,aa]
                rw [hs];refine Ev.step (fun k => ?_) (ih (p++[q]++[s]) (s.f1+2) (by rw [hp];simp) (.inr ⟨p++[q],s,rfl,rfl,t1.1,t1.2⟩));rw [iO.l0,if_pos c1,if_pos c2,if_pos c1,hrd,nZ,nZ];simp only [t0,t1,decide_true,Bool.and_self,Option.bind_some,if_true];rw [if_neg t2,if_pos (by simp),hwp,if_pos (by omega),if_pos c3,hrq,hw2,if_neg t3,hw]
        · refine Ev.step (f:=fun _=>some (slB lo (s :: r))) (fun k => ?_) (Ev.now _)
          rw [iO.l0,if_pos c1,if_pos c2,if_pos c1,hrd,nZ,nZ];have e1:(decide (-1099511627776≤s.f1)&&decide (s.f1≤1099511627776))=false:=by
            rw [Bool.eq_false_iff];intro h;simp at h;exact t1 h
          have e2:slB lo (s :: r)=false:=by
            rw [Bool.eq_false_iff];intro h;rw [uU] at h;obtain ⟨h1,h2,h3,_⟩:=h;exact t1 ⟨by omega,h3⟩
          rw [e1,e2];simp [t0]
      · refine Ev.step (f:=fun _=>some (slB lo (s :: r))) (fun k => ?_) (Ev.now _)
        rw [iO.l0,if_pos c1,if_pos c2,if_pos c1,hrd,nZ];have e1:(decide (-1099511627776≤s.f0)&&decide (s.f0≤1099511627776))=false:=by
          rw [Bool.eq_false_iff];intro h;simp at h;exact t0 h
        have e2:slB lo (s :: r)=false:=by
          rw [Bool.eq_false_iff];intro h;rw [uU] at h;obtain ⟨h1,h2,h3,_⟩:=h;exact t0 ⟨by omega,by omega⟩
        rw [e1,e2];simp
  exact key l [] (-1099511627776) rfl (.inl ⟨rfl,rfl⟩)
theorem sJ (l:List Sp) (x:Int) (hl:l.length≤9223372036854775807):Ev (fun k=>jo.f k l x) (lY l x):=by
  have key:∀ (rest pre:List Sp),l=pre++rest→Ev (fun k=>jo.l0 k l x (pre.length:Int)) (lY rest x):=by
    intro rest;induction rest with
    | nil =>
      intro pre hp;refine Ev.step (f:=fun _=>some false) (fun k => ?_) (Ev.now _);rw [jo.l0,if_neg (by rw [hp];simp)]
    | cons s r ih =>
      intro pre hp;have hlen:pre.length+1≤l.length:=by rw [hp];simp
      have hrd:gN l (pre.length:Int)=s:=by rw [hp];exact pW _ _ _
      have hw:=nU pre s l.length hlen hl;have c1:(pre.length:Int)<(l.length:Int):=by omega
      have c2:(0:Int)≤(pre.length:Int):=by omega
      have hi:=ih (pre++[s]) (by rw [hp];simp);by_cases t0:s.f0≤x
      · by_cases t1:x≤s.f1
        · refine Ev.step (f:=fun _=>some (lY (s :: r) x)) (fun k => ?_) (Ev.now _)
          rw [jo.l0,if_pos c1,if_pos c2,hrd,if_pos t0,if_pos t1,kP];simp [t0,t1]
        · have:lY (s :: r) x=lY r x:=by rw [kP];simp [t1]
          rw [this];refine Ev.step (fun k => ?_) hi;rw [jo.l0,if_pos c1,if_pos c2,hrd,if_pos t0,if_neg t1,hw]
      · have:lY (s :: r) x=lY r x:=by rw [kP];simp [t0]
        rw [this];refine Ev.step (fun k => ?_) hi;rw [jo.l0,if_pos c1,if_pos c2,hrd,if_neg t0,hw]
  exact key l [] rfl
def pX:List Sp→List Sp→Bool
  | [],[]=>true
  | s :: r,t :: q=>((s.f0==t.f0)&&(s.f1==t.f1))&&pX r q
  | _,_=>false
theorem tV:∀ {l m:List Sp},pX l m=true↔l=m
  | [],[]=>by simp [pX]
  | s :: r,t :: q=>by
    simp only [pX,Bool.and_eq_true,beq_iff_eq,tV (l:=r) (m:=q),List.cons.injEq];constructor
    · rintro ⟨⟨h1,h2⟩,h3⟩;exact ⟨by cases s;cases t;simp only at h1 h2;rw [h1,h2],h3⟩
    · rintro ⟨rfl,h3⟩;exact ⟨⟨rfl,rfl⟩,h3⟩
  | [],_ :: _=>by simp [pX]
  | _ :: _,[]=>by simp [pX]
theorem aai:∀ {l m:List Sp},l.length≠m.length→pX l m=false
  | l,m,h=>by rw [Bool.eq_false_iff];intro e;exact h (by rw [tV.1 e])
theorem ab7 (l m:List Sp) (hl:l.length≤9223372036854775807):Ev (fun k=>jH.f k l m) (pX l m):=by
  by_cases hlm:l.length=m.length
  · have key:∀ (r q p u:List Sp),l=p++r→m=u++q→p.length=u.length→Ev (fun k=>jH.l0 k m l (l.length:Int) (p.length:Int)) (pX r q):=by
      intro r;induction r with
      | nil =>
        intro q p u h1 h2 h3;have hq:q=[]:=by
          have:q.length=0:=by have a:=congrArg List.length h1;have b:=congrArg List.length h2;simp at a b;omega
          exact List.eq_nil_of_length_eq_zero this
        subst hq;refine Ev.step (f:=fun _=>some true) (fun k => ?_) (Ev.now _);rw [jH.l0,if_neg (by rw [h1];simp)]
      | cons s r ih =>
        intro q p u h1 h2 h3;cases q with
        | nil=>have a:=congrArg List.length h1;have b:=congrArg List.length h2;simp at a b;omega
        | cons t q =>
          have hlen:p.length+1≤l.length:=by rw [h1];simp
          have hrd:gN l (p.length:Int)=s:=by rw [h1];exact pW _ _ _
          have hrm:gN m (p.length:Int)=t:=by rw [h2,h3];exact pW _ _ _
          have hw:=nU p s l.length hlen hl;have c1:(p.length:Int)<(l.length:Int):=by omega
          have c2:(0:Int)≤(p.length:Int):=by omega
          have c3:(p.length:Int)<(m.length:Int):=by omega
          by_cases e:s.f0=t.f0∧s.f1=t.f1
          · have:pX (s :: r) (t :: q)=pX r q:=by simp [pX,e]
            rw [this];refine Ev.step (fun k => ?_) (ih q (p++[s]) (u++[t]) (by rw [h1];simp) (by rw [h2];simp) (by simp [h3]));rw [jH.l0,if_pos c1,if_pos c2,if_pos c1,if_pos c3,hrd,hrm,if_neg (by simp [e]),hw]
          · refine Ev.step (f:=fun _=>some (pX (s :: r) (t :: q))) (fun k => ?_) (Ev.now _)
            rw [jH.l0,if_pos c1,if_pos c2,if_pos c1,if_pos c3,hrd,hrm];have e2:pX (s :: r) (t :: q)=false:=by
              rw [Bool.eq_false_iff];intro h;simp [pX] at h;exact e h.1
            rw [if_pos (by by_cases a:t.f0=s.f0 <;> by_cases b:t.f1=s.f1 <;> simp [a,b] <;> exact e ⟨a.symm,b.symm⟩),e2]
    refine Ev.congr (fun k => ?_) (key l m [] [] rfl rfl rfl);simp only [jH.f];rw [if_pos (by omega)];rfl
  · rw [aai hlm]
    refine Ev.congr (fun k => ?_) (Ev.now _);simp only [jH.f];rw [if_neg (by omega)]
theorem wM (pre r:List Int) (s:Int):rd (pre++s :: r) (pre.length:Int)=s:=by simp [rd]
theorem sK (l:List Int) (x:Int) (hl:l.length≤1000000000):Ev (fun k=>iP.f k l x) (ins l x):=by
  have done:∀ (rest pre out:List Int),l=pre++rest→out.length+rest.length≤1000000001→Ev (fun k=>iP.l0 k l x out true (pre.length:Int)) (out++rest):=by
    intro rest;induction rest with
    | nil =>
      intro pre out hp hb;rw [List.append_nil];refine Ev.step (f:=fun _=>some out) (fun k => ?_) (Ev.now _);rw [iP.l0,if_neg (by rw [hp];simp),if_pos rfl]
    | cons y r ih =>
      intro pre out hp hb;have hlen:pre.length+1≤l.length:=by rw [hp];simp
      have hrd:rd l (pre.length:Int)=y:=by rw [hp];exact wM _ _ _
      have hw:=nU pre y l.length hlen (by omega);have c1:(pre.length:Int)<(l.length:Int):=by omega
      have c2:(0:Int)≤(pre.length:Int):=by omega
      have c3:out.length<17592186044416:=by simp at hb;omega
      have hi:=ih (pre++[y]) (out++[y]) (by rw [hp];simp) (by simp at hb ⊢;omega);rw [List.append_assoc,List.singleton_append] at hi;refine Ev.step (fun k => ?_) hi;rw [iP.l0,if_pos c1,if_pos c2,hrd];by_cases e:y=x
      · rw [if_pos e,if_pos c3,hw]
      · rw [if_neg e,if_pos rfl,if_pos c3,hw]
  have key:∀ (rest pre out:List Int),l=pre++rest→out.length+rest.length≤1000000000→Ev (fun k=>iP.l0 k l x out false (pre.length:Int)) (out++ins rest x):=by
    intro rest;induction rest with
    | nil =>
      intro pre out hp hb;refine Ev.step (f:=fun _=>some (out++[x])) (fun k => ?_) (Ev.now _);have c3:out.length<17592186044416:=by simp at hb;omega
      rw [iP.l0,if_neg (by rw [hp];simp),if_neg (by simp),if_pos c3]
    | cons y r ih =>
      intro pre out hp hb;have hlen:pre.length+1≤l.length:=by rw [hp];simp
      have hrd:rd l (pre.length:Int)=y:=by rw [hp];exact wM _ _ _
      have hw:=nU pre y l.length hlen (by omega);have c1:(pre.length:Int)<(l.length:Int):=by omega
      have c2:(0:Int)≤(pre.length:Int):=by omega
      have c3:out.length<17592186044416:=by simp at hb;omega
      have hp2:l=(pre++[y])++r:=by rw [hp];simp
      simp only [ins];by_cases e:y=x
      · rw [if_pos e]
        have hi:=done r (pre++[y]) (out++[y]) hp2 (by simp at hb ⊢;omega);rw [List.append_assoc,List.singleton_append] at hi;refine Ev.step (fun k => ?_) hi;rw [iP.l0,if_pos c1,if_pos c2,hrd,if_pos e,if_pos c3,hw]
      · rw [if_neg e]
        by_cases e2:y>x
        · rw [if_pos e2]
          have hi:=done r (pre++[y]) (out++[x]++[y]) hp2 (by simp at hb ⊢;omega);have ea:out++[x]++[y]++r=out++x :: y :: r:=by simp
          rw [ea] at hi;refine Ev.step (fun k => ?_) hi;have c4:(out++[x]).length<17592186044416:=by simp at hb ⊢;omega
          rw [iP.l0,if_pos c1,if_pos c2,hrd,if_neg e,if_neg (by simp),if_pos e2,if_pos c3];simp only [Option.bind_some];rw [if_pos c4,hw]
        · rw [if_neg e2]
          have hi:=ih (pre++[y]) (out++[y]) hp2 (by simp at hb ⊢;omega);rw [List.append_assoc,List.singleton_append] at hi;refine Ev.step (fun k => ?_) hi;rw [iP.l0,if_pos c1,if_pos c2,hrd,if_neg e,if_neg (by simp),if_neg e2,if_pos c3,hw]
  exact key l [] [] rfl (by simpa using hl)
def acP (l:List Sp):Prop:=∀ s∈l,-4611686018427387904≤s.f1∧s.f1≤4611686018427387904
theorem aa9 (a b:List Sp) (ha:acP a) (hb:acP b) (hl:a.length+b.length≤100000000):Ev (fun k=>iH.f k a b) (plc b (plc a [])):=by
  have kb:∀ (rest pre:List Sp) (p:List Int),b=pre++rest→p.length+2*rest.length≤900000000→Ev (fun k=>iH.l1 k b p (pre.length:Int)) (plc rest p):=by
    intro rest;induction rest with
    | nil =>
      intro pre p hp hn;refine Ev.step (f:=fun _=>some p) (fun k => ?_) (Ev.now _);rw [iH.l1,if_neg (by rw [hp];simp)]
    | cons s r ih =>
      intro pre p hp hn;have hlen:pre.length+1≤b.length:=by rw [hp];simp
      have hrd:gN b (pre.length:Int)=s:=by rw [hp];exact pW _ _ _
      have hw:=nU pre s b.length hlen (by omega);have c1:(pre.length:Int)<(b.length:Int):=by omega
      have c2:(0:Int)≤(pre.length:Int):=by omega
      have hs:=hb s (by rw [hp];simp);have hw2:wrap64 (s.f1+1)=s.f1+1:=jl (by omega) (by omega);have l1:=tQ p s.f0;have l2:=tQ (ins p s.f0) (s.f1+1);simp only [List.length_cons] at hn;refine Ev.step (f:=fun k=>(iP.f k p s.f0).bind fun t=>(iP.f k t (s.f1+1)).bind fun u=>iH.l1 k b u ((pre++[s]).length:Int)) (fun k => ?_) ?_
      · rw [iH.l1,if_pos c1,if_pos c2,hrd,hw2,hw]
      · refine Ev.bind (sK p s.f0 (by omega)) (Ev.bind (sK _ _ (by omega)) (ih (pre++[s]) _ (by rw [hp];simp) (by omega)))
  have ka:∀ (rest pre:List Sp) (p:List Int),a=pre++rest→p.length+2*rest.length+2*b.length≤900000000→Ev (fun k=>iH.l0 k a b p (pre.length:Int)) (plc b (plc rest p)):=by
    intro rest;induction rest with
    | nil =>
      intro pre p hp hn;refine Ev.step (fun k => ?_) (kb b [] p rfl (by simp at hn ⊢;omega));rw [iH.l0,if_neg (by rw [hp];simp)];rfl
    | cons s r ih =>
      intro pre p hp hn;have hlen:pre.length+1≤a.length:=by rw [hp];simp
      have hrd:gN a (pre.length:Int)=s:=by rw [hp];exact pW _ _ _
      have hw:=nU pre s a.length hlen (by omega);have c1:(pre.length:Int)<(a.length:Int):=by omega
      have c2:(0:Int)≤(pre.length:Int):=by omega
      have hs:=ha s (by rw [hp];simp);have hw2:wrap64 (s.f1+1)=s.f1+1:=jl (by omega) (by omega);have l1:=tQ p s.f0;have l2:=tQ (ins p s.f0) (s.f1+1);simp only [List.length_cons] at hn;refine Ev.step (f:=fun k=>(iP.f k p s.f0).bind fun t=>(iP.f k t (s.f1+1)).bind fun u=>iH.l0 k a b u ((pre++[s]).length:Int)) (fun k => ?_) ?_
      · rw [iH.l0,if_pos c1,if_pos c2,hrd,hw2,hw]
      · refine Ev.bind (sK p s.f0 (by omega)) (Ev.bind (sK _ _ (by omega)) (ih (pre++[s]) _ (by rw [hp];simp) (by omega)))
  exact ka a [] [] rfl (by simp;omega)
def kindOf (kind:Int) (x y:Bool):Bool:=if kind=1 then x || y else if kind=2 then x&&y else x && !y
theorem afw (kind:Int) (x y:Bool):l9.f kind x y=some (kindOf kind x y):=by
  unfold l9.f kindOf;by_cases h1:kind=1
  · rw [if_pos h1,if_pos h1];cases x <;> cases y <;> rfl
  · rw [if_neg h1,if_neg h1]
    by_cases h2:kind=2
    · rw [if_pos h2,if_pos h2];cases x <;> cases y <;> rfl
    · rw [if_neg h2,if_neg h2];cases x <;> cases y <;> rfl
theorem ab8 (kind:Int) (a b:List Sp) (ha:a.length≤100000000) (hb:b.length≤100000000) (p:List Int) (hp:p.length≤900000000) (hr:∀ z∈p,-4611686018427387904≤z∧z≤4611686018427387905) :
    ∀ (rest pre:List Int) (out:List Sp),p=pre++rest→out.length≤pre.length→Ev (fun k=>iy.l0 k kind a b p out (pre.length:Int)) (uT (fun x=>kindOf kind (lY a x) (lY b x)) out rest):=by
  intro rest;induction rest with
  | nil =>
    intro pre out h hn;refine Ev.step (f:=fun _=>some out) (fun k => ?_) (Ev.now _);have hpl:pre.length=p.length:=by rw [h];simp
    have hw:wrap64 ((pre.length:Int)+1)=(pre.length:Int)+1:=jl (by omega) (by omega);rw [iy.l0,hw,if_neg (by rw [h];simp;omega)]
  | cons x r ih =>
    intro pre out h hn;have hlen:pre.length+1≤p.length:=by rw [h];simp
    have hw:=nU pre x p.length hlen (by omega);cases r with
    | nil =>
      refine Ev.step (f:=fun _=>some out) (fun k => ?_) (Ev.now _);rw [iy.l0,hw,if_neg (by rw [h];simp)]
    | cons y r =>
      have c0:((pre++[x]).length:Int)<(p.length:Int):=by rw [h];simp;omega
      have c1:(pre.length:Int)<(p.length:Int):=by omega
      have c2:(0:Int)≤(pre.length:Int):=by omega
      have c20:(0:Int)≤((pre++[x]).length:Int):=by omega
      have hrx:rd p (pre.length:Int)=x:=by rw [h];exact wM _ _ _
      have aa:rd p ((pre++[x]).length:Int)=y:=by rw [h,show pre++x :: y :: r=(pre++[x])++y :: r by simp];exact wM _ _ _
      have bx:=hr x (by rw [h];simp);have ab:=hr y (by rw [h];simp);have wx:wrap64 (x - 1)=x - 1:=jl (by omega) (by omega);have wy:wrap64 (y - 1)=y - 1:=jl (by omega) (by omega);have h2:p=(pre++[x])++y :: r:=by rw [h];simp
      have c3:out.length<8796093022208:=by omega
      refine Ev.step (f:=fun k=>(jo.f k a x).bind fun t=>(jo.f k b x).bind fun u=>if kindOf kind t u=true then iy.l0 k kind a b p (join out x y) ((pre++[x]).length:Int) else iy.l0 k kind a b p out ((pre++[x]).length:Int)) (fun k => ?_) ?_
      · rw [iy.l0,hw,if_pos c0,if_pos c2,if_pos c1,hrx]
        congr 1;funext t;congr 1;funext u
        rw [afw];simp only [Option.bind_some];by_cases hk:kindOf kind t u=true
        · rw [if_pos hk,if_pos hk]
          rcases List.eq_nil_or_concat out with rfl | ⟨o,z,rfl⟩
          · rw [if_neg (by simp),if_pos c20,if_pos c3,aa,wy,join_nil];rfl
          · rw [List.concat_eq_append] at *
            have hwp:=sI o z (o.length+1) (Nat.le_refl _) (by simp at c3;omega);have hz:gN (o++[z]) (o.length:Int)=z:=pW _ _ _;rw [if_pos (by simp only [List.length_append,List.length_singleton];omega),hwp,if_pos (by omega),if_pos (by simp only [List.length_append,List.length_singleton];omega),hz,wx,uS];by_cases e:z.f1=x - 1
            · rw [if_pos e,if_pos e,if_pos c20,aa,wy]
              congr 1
              simp
            · rw [if_neg e,if_neg e,if_pos c20,if_pos c3,aa,wy]
        · rw [if_neg hk,if_neg hk]
      · refine Ev.bind (sJ a x (by omega)) (Ev.bind (sJ b x (by omega)) ?_)
        simp only [uT];by_cases hk:kindOf kind (lY a x) (lY b x)=true
        · simp only [hk,if_true]
          refine ih (pre++[x]) (join out x y) h2 ?_;have:(join out x y).length≤out.length+1:=by
            rcases List.eq_nil_or_concat out with rfl | ⟨o,z,rfl⟩
            · simp [join_nil]
            · rw [List.concat_eq_append,uS];split <;> simp
          simp;omega
        · simp only [hk]
          exact ih (pre++[x]) out h2 (by simp;omega)
theorem abb (kind:Int) (lo hi:Int) (hlo : -4611686018427387904≤lo) (hh:hi≤4611686018427387904) (a b:List Sp) (ha:∀ s∈a,lo≤s.f0∧s.f0≤s.f1∧s.f1≤hi) (hb:∀ s∈b,lo≤s.f0∧s.f0≤s.f1∧s.f1≤hi) (hl:a.length+b.length≤100000000) :
    ∃ r,Ev (fun k=>iy.f k kind a b) r∧SL lo hi r∧∀ x,lY r x=kindOf kind (lY a x) (lY b x):=by
  have hy:kindOf kind false false=false:=by unfold kindOf;split <;> simp
  obtain ⟨h1,h2⟩:=yL (kindOf kind) hy ha hb;refine ⟨_,?_,h1,h2⟩;have hpl:=aa5 b (plc a []);have aa:=aa5 a [];simp at aa;have hr:∀ z∈plc b (plc a []),-4611686018427387904≤z∧z≤4611686018427387905:=by
    intro z hz;rw [wJ,wJ] at hz;rcases hz with (hz | ⟨s,hs,h⟩) | ⟨s,hs,h⟩
    · simp at hz
    · have:=ha s hs;rcases h with rfl | rfl <;> omega
    · have:=hb s hs;rcases h with rfl | rfl <;> omega
  exact Ev.bind (aa9 a b (fun s hs=>by have:=ha s hs;omega) (fun s hs=>by have:=hb s hs;omega) hl) (ab8 kind a b (by omega) (by omega) _ (by omega) hr _ [] [] rfl (by simp))
end Go.Proofs.YtmbmalkpmanaaaaGreat.P
namespace Go.Proofs.YtmbmalkpmanaaaaGreat.P
set_option linter.unusedVariables false
set_option linter.unusedSimpArgs false
open Go.RowKit Go.Proofs.YtmbmalkpmanaaaaGreatW.iD Go.Proofs.YtmbmalkpmanaaaaGreatW.jw
def ab9 (l:List Sp):Bool:=l.any fun s=>decide (s.f0>s.f1)
def uq (a:Int):Bool:=decide (-1099511627776≤a)&&decide (a≤1099511627776)
def acQ (l:List Sp):Bool:=l.any fun s => !(uq s.f0&&uq s.f1)
def qY (l:List Sp):List Sp × Int:=if ab9 l then ([],2) else if acQ l then ([],20) else ((ni l).foldl glue [],0)
theorem abd {l:List Sp} (h1:ab9 l=false) (h2:acQ l=false):∀ s∈l,-1099511627776≤s.f0∧s.f0≤s.f1∧s.f1≤1099511627776:=by
  intro s hs;have a:=List.any_eq_false.1 h1 s hs;have b:=List.any_eq_false.1 h2 s hs;simp [uq] at a b;omega
theorem aev (a b:Int):mx a b=max a b:=by unfold mx;split <;> omega
theorem adz (S:List Sp) (n:Nat) (hS:S.length≤100000000) (hb:∀ s∈S,-4611686018427387904≤s.f1∧s.f1≤4611686018427387904) :
    ∀ (rest pre out:List Sp),S=pre++rest→out.length≤pre.length→(∀ s∈out,-4611686018427387904≤s.f1∧s.f1≤4611686018427387904)→Ev (fun k=>iW.l2 k out S (S.length:Int) (pre.length:Int)) (rest.foldl glue out,0):=by
  intro rest;induction rest with
  | nil =>
    intro pre out h hn ho;refine Ev.step (f:=fun _=>some (out,0)) (fun k => ?_) (Ev.now _);rw [iW.l2,if_neg (by rw [h];simp)]
  | cons s r ih =>
    intro pre out h hn ho;have hlen:pre.length+1≤S.length:=by rw [h];simp
    have hrd:gN S (pre.length:Int)=s:=by rw [h];exact pW _ _ _
    have hw:=nU pre s S.length hlen (by omega);have c1:(pre.length:Int)<(S.length:Int):=by omega
    have c2:(0:Int)≤(pre.length:Int):=by omega
    have c3:out.length<8796093022208:=by omega
    have h2:S=(pre++[s])++r:=by rw [h];simp
    have hs:=hb s (by rw [h];simp);have hg:∀ t∈glue out s,-4611686018427387904≤t.f1∧t.f1≤4611686018427387904:=by
      intro t ht;rcases List.eq_nil_or_concat out with rfl | ⟨o,z,rfl⟩
      · rw [wK] at ht;simp at ht;subst ht;exact hs
      · rw [List.concat_eq_append] at *
        rw [sH] at ht;have hz:=ho z (by simp);split at ht
        · simp at ht
          rcases ht with ht | rfl
          · exact ho t (by simp [ht])
          · show _≤max z.f1 s.f1∧max z.f1 s.f1≤_;omega
        · simp at ht
          rcases ht with ht | rfl | rfl
          · exact ho t (by simp [ht])
          · exact hz
          · exact hs
    refine Ev.step (fun k => ?_) (ih (pre++[s]) (glue out s) h2 (by have:=zB out s;simp;omega) hg);rw [iW.l2,if_pos c1,if_pos c2,if_pos c1,hrd];rcases List.eq_nil_or_concat out with rfl | ⟨o,z,rfl⟩
    · have aa:wrap64 ((([]:List Sp).length:Int) - 1) = -1:=by simpa using jl (n := -1) (by omega) (by omega)
      rw [aa,if_neg (by omega),if_pos c3,hw];rfl
    · rw [List.concat_eq_append] at *
      have hwp:=sI o z (o.length+1) (Nat.le_refl _) (by simp at c3;omega);have hz:gN (o++[z]) (o.length:Int)=z:=pW _ _ _;have hzb:=ho z (by simp);have hz1:wrap64 (z.f1+1)=z.f1+1:=jl (by omega) (by omega);rw [hwp,if_pos (by omega),if_pos (by omega),if_pos (by simp only [List.length_append,List.length_singleton];omega),hz,hz1,sH];by_cases e:s.f0≤z.f1+1
      · rw [if_pos e,if_pos e,hw,aev]
        congr 1
        simp
      · rw [if_neg e,if_neg e,if_pos c3,hw]
theorem adA (l:List Sp) (hl:l.length≤100000000):Ev (fun k=>iW.f k l) (qY l):=by
  have k1:ab9 l=false→∀ (rest pre:List Sp),l=pre++rest→acQ pre=false→Ev (fun k=>iW.l1 k l l (l.length:Int) (pre.length:Int)) (qY l):=by
    intro hA rest;induction rest with
    | nil =>
      intro pre h hB;have hlp:l=pre:=by rw [h];simp
      rw [← hlp] at hB;have hms:qY l=((ni l).foldl glue [],0):=by simp [qY,hA,hB]
      rw [hms];have hgood:=abd hA hB;have hg:=adz (ni l) l.length (by rw [oF];exact hl) (fun s hs=>by have:=hgood s ((qH l).mem_iff.1 hs);omega) (ni l) [] [] rfl (by simp) (by simp);rw [oF] at hg;refine Ev.step (fun k => ?_) hg;rw [iW.l1,if_neg (by rw [h];simp)];simp only [ru.f,tL.f];rw [if_pos (by unfold many;omega)];simp only [Option.bind_some];rw [if_pos (by unfold many;omega)];rfl
    | cons s r ih =>
      intro pre h hB;have hlen:pre.length+1≤l.length:=by rw [h];simp
      have hrd:gN l (pre.length:Int)=s:=by rw [h];exact pW _ _ _
      have hw:=nU pre s l.length hlen (by omega);have c1:(pre.length:Int)<(l.length:Int):=by omega
      have c2:(0:Int)≤(pre.length:Int):=by omega
      have bad:(uq s.f0&&uq s.f1)=false→qY l=([],20):=by
        intro hb;have:acQ l=true:=by rw [h];simp only [acQ,List.any_append,List.any_cons,hb];simp
        simp [qY,hA,this]
      by_cases t0:uq s.f0=true
      · by_cases t1:uq s.f1=true
        · refine Ev.step (fun k => ?_) (ih (pre++[s]) (by rw [h];simp) (by simp only [acQ,List.any_append,List.any_cons,List.any_nil,t0,t1] at hB ⊢;simpa using hB))
          rw [iW.l1,if_pos c1,if_pos c2,if_pos c1,hrd,nZ,nZ];unfold uq at t0 t1;simp only [t0,t1,Option.bind_some,if_true,hw]
        · have t1':uq s.f1=false:=by simpa using t1
          rw [bad (by simp [t1'])];refine Ev.step (f:=fun _=>some ([],20)) (fun k => ?_) (Ev.now _);rw [iW.l1,if_pos c1,if_pos c2,if_pos c1,hrd,nZ,nZ];unfold uq at t0 t1';simp [t0,t1']
      · have t0':uq s.f0=false:=by simpa using t0
        rw [bad (by simp [t0'])];refine Ev.step (f:=fun _=>some ([],20)) (fun k => ?_) (Ev.now _);rw [iW.l1,if_pos c1,if_pos c2,if_pos c1,hrd,nZ];unfold uq at t0';simp [t0']
  have k0:∀ (rest pre:List Sp),l=pre++rest→ab9 pre=false→Ev (fun k=>iW.l0 k l l (l.length:Int) (pre.length:Int)) (qY l):=by
    intro rest;induction rest with
    | nil =>
      intro pre h hA;have hlp:l=pre:=by rw [h];simp
      rw [← hlp] at hA;refine Ev.step (fun k => ?_) (k1 hA l [] rfl rfl);rw [iW.l0,if_neg (by rw [h];simp)];rfl
    | cons s r ih =>
      intro pre h hA;have hlen:pre.length+1≤l.length:=by rw [h];simp
      have hrd:gN l (pre.length:Int)=s:=by rw [h];exact pW _ _ _
      have hw:=nU pre s l.length hlen (by omega);have c1:(pre.length:Int)<(l.length:Int):=by omega
      have c2:(0:Int)≤(pre.length:Int):=by omega
      by_cases e:s.f0>s.f1
      · have:ab9 l=true:=by rw [h];simp [ab9];exact .inr (.inl e)
        have hms:qY l=([],2):=by simp [qY,this]
        rw [hms];refine Ev.step (f:=fun _=>some ([],2)) (fun k => ?_) (Ev.now _);rw [iW.l0,if_pos c1,if_pos c2,if_pos c1,hrd,if_pos e]
      · refine Ev.step (fun k => ?_) (ih (pre++[s]) (by rw [h];simp) (by have e2:s.f0≤s.f1:=(by omega);simp only [ab9,List.any_append,List.any_cons,List.any_nil] at hA ⊢;simp [hA,e2]))
        rw [iW.l0,if_pos c1,if_pos c2,if_pos c1,hrd,if_neg e,hw]
  exact k0 l [] rfl rfl
theorem aaj (l:List Sp):SL (-1099511627776) 1099511627776 (qY l).1∧((qY l).2=0→∀ x,lY (qY l).1 x=lY l x):=by
  unfold qY;by_cases hA:ab9 l=true
  · rw [if_pos hA];exact ⟨trivial,fun h=>by simp at h⟩
  · rw [if_neg hA]
    have hA':ab9 l=false:=by simpa using hA
    by_cases hB:acQ l=true
    · rw [if_pos hB];exact ⟨trivial,fun h=>by simp at h⟩
    · rw [if_neg hB]
      have hB':acQ l=false:=by simpa using hB
      have hgood:=abd hA' hB';obtain ⟨h1,h2⟩:=xQ (lo := -1099511627776) (hi:=1099511627776) (ni l) [] trivial (fun s hs=>hgood s ((qH l).mem_iff.1 hs)) (by simp) (wF l);exact ⟨h1,fun _ x=>by rw [h2,aa8 (qH l)];simp [oo]⟩
end Go.Proofs.YtmbmalkpmanaaaaGreat.P
namespace Go.Proofs.YtmbmalkpmanaaaaGreat.P
set_option linter.unusedVariables false
set_option linter.unusedSimpArgs false
open Go.RowKit Go.Proofs.YtmbmalkpmanaaaaGreatW.iD
theorem Ev.yes {α:Type} {c:Prop} [Decidable c] {g f:Nat→Option α} {r:α} (h:c) (k:Ev g r):Ev (fun n=>if c then g n else f n) r:=Ev.congr (fun n=>if_pos h) k
theorem Ev.no {α:Type} {c:Prop} [Decidable c] {g f:Nat→Option α} {r:α} (h:¬ c) (k:Ev f r):Ev (fun n=>if c then g n else f n) r:=Ev.congr (fun n=>if_neg h) k
theorem Ev.val {α:Type} {g:Option α} {r:α} (h:g=some r):Ev (fun _=>g) r:=⟨0,fun _ _=>h⟩
theorem SL.len2 {hi:Int}:∀ {l:List Sp} {lo:Int},lo≤hi+2→SL lo hi l→2*(l.length:Int)≤hi+2 - lo
  | [],lo,h,_=>by simp;omega
  | s :: r,lo,h,hs=>by
    obtain ⟨h1,h2,h3,h4⟩:=hs;have:=SL.len2 (by omega) h4;simp only [List.length_cons];omega
theorem SL.acR {l:List Sp} (h:SL (-1099511627776) 1099511627776 l):l.length≤2199023255552:=by have:=SL.len2 (by omega) h;omega
end Go.Proofs.YtmbmalkpmanaaaaGreat.P

/- Lemmas for laws of chapter 7: what the functions that they reach compute. No condition of its own. -/
import Derived.Test.YtmbmalkpmanaaaaGreatYH8
import Derived.Test.YtmbmalkpmanaaaaGreatYH4
import Derived.Test.YtmbmalkpmanaaaaGreatYH23
import Derived.Test.YtmbmalkpmanaaaaGreatYH14
import Derived.Test.YtmbmalkpmanaaaaGreatYH11
import Derived.Test.YtmbmalkpmanaaaaGreatYH2
import Derived.Test.YtmbmalkpmanaaaaGreatYH6
import Derived.Test.YtmbmalkpmanaaaaGreatYH5
import Derived.Test.YtmbmalkpmanaaaaGreatYH7
import Derived.Test.YtmbmalkpmanaaaaGreatYH9
namespace Go.Proofs.YtmbmalkpmanaaaaGreat.P
set_option linter.unusedVariables false
set_option linter.unusedSimpArgs false
open Go.RowKit Go.Proofs.YtmbmalkpmanaaaaGreatW.iD
theorem acS (l:List Sp) (j:Nat) (h:j<l.length):gN l (j:Int)=l[j]:=by simp [gN,h]
def aak (l:List Sp):Int × Int × Bool :=
  match l.head?,l.getLast? with
  | some s,some z=>(s.f0,z.f1,true)
  | _,_=>(0,0,false)
def nI (a b:List Sp):Bool :=
  match a.getLast?,b.head? with
  | some z,some s=>decide (z.f1<s.f0)
  | _,_=>true
theorem abe (p:List Sp) (z:Sp) (h:(p++[z]).length≤4611686018427387904):wrap64 (((p++[z]).length:Int) - 1)=(p.length:Int)∧gN (p++[z]) (p.length:Int)=z:=by
  refine ⟨sI p z _ (by simp) (by omega:(p++[z]).length≤9223372036854775807),pW p [] z⟩
theorem oQ (l:List Sp) (h:l.length≤4611686018427387904):jh.f l=some (aak l):=by
  rcases List.eq_nil_or_concat l with rfl | ⟨p,z,rfl⟩
  · simp [jh.f,aak]
  · have e:p.concat z=p++[z]:=by simp
    rw [e] at h ⊢;obtain ⟨w,r⟩:=abe p z h;unfold jh.f;rw [if_neg (by simp only [List.length_append,List.length_singleton];omega),if_pos (by simp only [List.length_append,List.length_singleton];omega),w,if_pos (by omega),if_pos (by simp only [List.length_append,List.length_singleton];omega),r];have hg:(p++[z]).getLast? = some z:=by simp
    unfold aak;rw [hg];cases p <;> simp [gN]
theorem yM (a b:List Sp) (h:a.length≤4611686018427387904):jk.f a b=some (nI a b):=by
  rcases List.eq_nil_or_concat a with rfl | ⟨p,z,rfl⟩
  · simp [jk.f,nI]
  · have e:p.concat z=p++[z]:=by simp
    rw [e] at h ⊢;obtain ⟨w,r⟩:=abe p z h;unfold jk.f;rw [if_neg (by simp only [List.length_append,List.length_singleton];omega)];cases b with
    | nil=>simp [nI]
    | cons s q =>
      rw [if_neg (by simp;omega),w,if_pos (by omega),if_pos (by simp only [List.length_append,List.length_singleton];omega),if_pos (by simp),r];simp [nI,gN]
theorem SL.rise {hi:Int}:∀ {l:List Sp} {lo:Int},SL lo hi l→∀ i j (hj:j<l.length) (hij:i<j),(l[i]'(by omega)).f1+2≤l[j].f0
  | [],_,_,_,_,hj,_=>by simp at hj
  | s :: r,lo,h,0,j+1,hj,_=>by
    have:=(SL.ticks h.2.2.2 (List.getElem_mem (by simpa using hj:j<r.length))).1;simpa using this
  | s :: r,lo,h,i+1,j+1,hj,hij=>by
    have:=SL.rise h.2.2.2 i j (by simpa using hj) (by omega);simpa using this
theorem SL.get {lo hi:Int} {l:List Sp} (h:SL lo hi l) (j:Nat) (hj:j<l.length):lo≤l[j].f0∧l[j].f0≤l[j].f1∧l[j].f1≤hi:=SL.ticks h (List.getElem_mem hj)
theorem acT (lo hi:Nat) (h:hi≤4611686018427387903) (hl:lo≤hi):wrap64 ((IntKind.u64.wrap (wrap64 ((lo:Int)+(hi:Int)))) / 2)=(((lo+hi) / 2:Nat):Int):=by
  rw [jl (n:=(lo:Int)+hi) (by omega) (by omega)];have:IntKind.u64.wrap ((lo:Int)+hi)=(lo:Int)+hi:=by
    simp only [IntKind.wrap,IntKind.bits,IntKind.signed];simp;omega
  rw [this,jl (by omega) (by omega)];omega
theorem abf (a b x:Int):mR.f a b x=some (if b<x then -1 else if a>x then 1 else 0):=by
  unfold mR.f;split
  · rfl
  · split <;> rfl
theorem abg {lb ub:Int} (l:List Sp) (x:Int) (hs:SL lb ub l) (hn:l.length≤4611686018427387903):∃ r,Ev (fun k=>gY.f k l x) r∧(decide (r.1<(l.length:Int))&&r.2)=lY l x:=by
  have key:∀ (d lo hi:Nat),hi - lo=d→lo≤hi→hi≤l.length→(∀ j (hj:j<l.length),j<lo→l[j].f1<x)→(∀ j (hj:j<l.length),hi≤j→x≤l[j].f1) →
      ∃ r,Ev (fun k=>gY.l0 k l x (l.length:Int) (lo:Int) (hi:Int)) r∧(decide (r.1<(l.length:Int))&&r.2)=lY l x:=by
    intro d;induction d using Nat.strongRecOn with
    | ind d ih =>
      intro lo hi hd hle hhn hlow hhigh;by_cases hlt:lo<hi
      · have c1:(lo:Int)<(hi:Int):=by omega
        have hm:=acT lo hi (by omega) hle;have hmid:(lo+hi) / 2<l.length:=by omega
        have hrd:=acS l ((lo+hi) / 2) hmid;by_cases t:l[(lo+hi) / 2].f1<x
        · obtain ⟨r,r1,r2⟩:=ih (hi - ((lo+hi) / 2+1)) (by omega) ((lo+hi) / 2+1) hi rfl (by omega) hhn (fun j hj h=>by
            rcases Nat.lt_or_ge j ((lo+hi) / 2) with g | g
            · have:=SL.rise hs j _ hmid g
              have:=(SL.get hs _ hmid).2.1;omega
            · have:j=(lo+hi) / 2:=by omega
              subst this;exact t) hhigh
          refine ⟨r,Ev.step (fun k => ?_) r1,r2⟩;have hw:wrap64 ((((lo+hi) / 2:Nat):Int)+1)=(((lo+hi) / 2+1:Nat):Int):=by rw [jl (by omega) (by omega)];simp
          rw [gY.l0,if_pos c1,hm,if_pos (by omega),if_pos (by omega),hrd,abf,if_pos t,Option.bind_some,if_pos (by omega),hw]
        · obtain ⟨r,r1,r2⟩:=ih ((lo+hi) / 2 - lo) (by omega) lo ((lo+hi) / 2) rfl (by omega) (by omega) hlow (fun j hj h=>by
            rcases Nat.lt_or_ge ((lo+hi) / 2) j with g | g
            · have:=SL.rise hs _ j hj g
              have:=(SL.get hs _ hj).2.1;omega
            · have:j=(lo+hi) / 2:=by omega
              subst this;omega)
          refine ⟨r,Ev.step (fun k => ?_) r1,r2⟩;have hneg:¬ (if l[(lo+hi) / 2].f1<x then (-1:Int) else if l[(lo+hi) / 2].f0>x then 1 else 0)<0:=by rw [if_neg t];split <;> omega
          rw [gY.l0,if_pos c1,hm,if_pos (by omega),if_pos (by omega),hrd,abf,Option.bind_some,if_neg hneg]
      · have he:lo=hi:=by omega
        subst he;by_cases hlast:lo<l.length
        · refine ⟨((lo:Int),decide (¬ (l[lo].f0>x))),Ev.step (f:=fun _=>some ((lo:Int),decide (¬ (l[lo].f0>x)))) (fun k => ?_) (Ev.now _),?_⟩
          · have hx:=hhigh lo hlast (by omega)
            rw [gY.l0,if_neg (by omega),if_pos (by omega),if_pos (by omega),if_pos (by omega),acS l lo hlast,abf,if_neg (by omega),Option.bind_some];by_cases g:l[lo].f0>x
            · simp [g]
            · simp [g]
          · have hx:=hhigh lo hlast (by omega)
            rw [Bool.eq_iff_iff];simp only [Bool.and_eq_true,decide_eq_true_eq,o8];constructor
            · rintro ⟨_,h⟩
              exact ⟨l[lo],List.getElem_mem hlast,by omega,hx⟩
            · rintro ⟨s,hmem,h1,h2⟩
              obtain ⟨j,hj,rfl⟩:=List.getElem_of_mem hmem;refine ⟨by omega,?_⟩;rcases Nat.lt_or_ge j lo with g | g
              · have:=hlow j hj g;omega
              · rcases Nat.lt_or_ge lo j with g2 | g2
                · have:=SL.rise hs _ j hj g2
                  have:=(SL.get hs _ hlast).2.1;omega
                · have:j=lo:=by omega
                  subst this;omega
        · have hl:lo=l.length:=by omega
          refine ⟨((lo:Int),false),Ev.step (f:=fun _=>some ((lo:Int),false)) (fun k => ?_) (Ev.now _),?_⟩
          · rw [gY.l0,if_neg (by omega),if_neg (by omega)]
          · rw [Bool.and_false,eq_comm,Bool.eq_false_iff]
            intro h;obtain ⟨s,hmem,h1,h2⟩:=o8.1 h;obtain ⟨j,hj,rfl⟩:=List.getElem_of_mem hmem;have:=hlow j hj (by omega);omega
  exact key _ 0 l.length rfl (by omega) (by omega) (by intro j _ h;omega) (by intro j hj h;omega)
theorem aew {lb ub:Int} (l:List Sp) (x:Int) (hs:SL lb ub l) (hn:l.length≤4611686018427387903):Ev (fun k=>mX.f k l x) (lY l x):=by
  obtain ⟨r,r1,r2⟩:=abg l x hs hn;refine Ev.bind r1 ?_;rw [← r2];by_cases h:r.2=true
  · refine Ev.yes h ?_
    rw [h,Bool.and_true];exact Ev.now _
  · refine Ev.no h ?_
    rw [Bool.eq_false_iff.2 h,Bool.and_false];exact Ev.now _
theorem uV:∀ (l out:List Sp),(l.foldl glue out).length≤out.length+l.length
  | [],out=>by simp
  | s :: r,out=>by
    have h1:=uV r (glue out s);have h2:=zB out s;simp only [List.foldl_cons,List.length_cons];omega
theorem abh (l:List Sp):(qY l).1.length≤l.length:=by
  unfold qY;split
  · simp
  · split
    · simp
    · have:=uV (ni l) []
      rw [oF] at this;simpa using this
theorem adB (yes:Bool→Bool→Bool) (hy:yes false false=false) {a b:List Sp} (ha:SL (-1099511627776) 1099511627776 a) (hb:SL (-1099511627776) 1099511627776 b) :
    SL (-1099511627776) 1099511627776 (rC yes a b)∧∀ x,lY (rC yes a b) x=yes (lY a x) (lY b x):=tO yes hy (by omega) (by omega) ha hb
theorem SL.front {lo hi:Int} {p r:List Sp} (h:SL lo hi (p++r)):SL lo hi p:=by
  induction p generalizing lo with
  | nil=>trivial
  | cons s p ih=>exact ⟨h.1,h.2.1,h.2.2.1,ih h.2.2.2⟩
theorem ae8 (a b:List Sp) (h:a.length+b.length≤1000000):nC.f a b=some (rC (fun a b=>a&&b) a b):=by unfold nC.f;rw [if_pos (by unfold many;omega)]
theorem adC (a b:List Sp) (h:a.length+b.length≤1000000):oG.f a b=some (decide ((rC (fun a b=>a&&b) a b)≠[])):=by
  unfold oG.f;rw [ae8 a b h,Option.bind_some];cases rC (fun a b=>a&&b) a b with
  | nil=>rfl
  | cons x r=>simp
def oH (n:Int) (s:Sp):Sp:=⟨s.f0+n,s.f1+n⟩
def okT (x:Int):Bool:=decide (-1099511627776≤x)&&decide (x≤1099511627776)
def okM (n:Int) (s:Sp):Bool:=okT (s.f0+n)&&okT (s.f1+n)
def qI (n:Int) (l:List Sp):List Sp × Int:=if l.all (okM n) then (l.map (oH n),0) else ([],20)
theorem qg (a n:Int) (h1 : -9223372036854775808≤a+n) (h2:a+n≤9223372036854775807):mE.f a n=some (a+n,0):=by
  unfold mE.f;rw [jl h1 h2];have e:((decide ((a+n)>a)) != (decide (n>0)))=false:=by
    by_cases h:n>0
    · have:a<a+n:=by omega
      simp [h,this]
    · have:a+n≤a:=by omega
      simp [h,this]
  rw [e];rfl
theorem add_not (a n:Int) (ha : -1099511627776≤a∧a≤1099511627776) (hn : -9223372036854775808≤n∧n≤9223372036854775807) (h:¬ (-9223372036854775808≤a+n∧a+n≤9223372036854775807)):mE.f a n=some (0,10):=by
  unfold mE.f;have e:((decide (wrap64 (a+n)>a)) != (decide (n>0)))=true:=by
    by_cases g:n>0
    · have:¬ wrap64 (a+n)>a:=by unfold wrap64;omega
      simp [g,this]
    · have:wrap64 (a+n)>a:=by unfold wrap64;omega
      simp [g,this]
  rw [e,if_pos rfl,if_neg (by omega)]
theorem adD (l:List Sp) (n:Int) (hs:SL (-1099511627776) 1099511627776 l) (hn : -9223372036854775808≤n∧n≤9223372036854775807):Ev (fun k=>jG.f k l n) (qI n l):=by
  have hl:=SL.acR hs;have key:∀ (rest pre:List Sp),l=pre++rest→pre.all (okM n)=true→Ev (fun k=>jG.l0 k n (pre.map (oH n)) l (l.length:Int) (pre.length:Int)) (qI n l):=by
    intro rest;induction rest with
    | nil =>
      intro pre hp hok;have e:l=pre:=by rw [hp];simp
      refine Ev.step (f:=fun _=>some (pre.map (oH n),0)) (fun k => ?_) ?_
      · rw [jG.l0,if_neg (by rw [hp];simp)]
      · rw [e];unfold qI;rw [if_pos hok];exact Ev.now _
    | cons s r ih =>
      intro pre hp hok;have hlen:pre.length+1≤l.length:=by rw [hp];simp
      have hrd:gN l (pre.length:Int)=s:=by rw [hp];exact pW _ _ _
      have hw:=nU pre s l.length hlen (by omega);have c1:(pre.length:Int)<(l.length:Int):=by omega
      have c2:(0:Int)≤(pre.length:Int):=by omega
      have c3:(pre.map (oH n)).length<8796093022208:=by rw [List.length_map];omega
      have ht:=SL.ticks hs (s:=s) (by rw [hp];simp);have bad:okM n s=false→qI n l=([],20):=fun h=>by
        unfold qI;rw [if_neg (by rw [hp,List.all_append,List.all_cons,h];simp)]
      by_cases g0 : -9223372036854775808≤s.f0+n∧s.f0+n≤9223372036854775807
      · by_cases g1 : -9223372036854775808≤s.f1+n∧s.f1+n≤9223372036854775807
        · by_cases t0:okT (s.f0+n)=true
          · by_cases t1:okT (s.f1+n)=true
            · refine Ev.step (fun k => ?_) (ih (pre++[s]) (by rw [hp];simp) (by rw [List.all_append,hok];simp [okM,t0,t1]))
              rw [jG.l0,if_pos c1,if_pos c2,if_pos c1,hrd,qg _ _ g0.1 g0.2,qg _ _ g1.1 g1.2,Option.bind_some,Option.bind_some,if_pos rfl,if_pos rfl,nZ,nZ];unfold okT at t0 t1;rw [Option.bind_some,if_pos t0,Option.bind_some,if_pos t1,if_pos c3,hw,List.map_append];rfl
            · have t1':okT (s.f1+n)=false:=by simpa using t1
              rw [bad (by simp [okM,t1'])];refine Ev.step (f:=fun _=>some ([],20)) (fun k => ?_) (Ev.now _);rw [jG.l0,if_pos c1,if_pos c2,if_pos c1,hrd,qg _ _ g0.1 g0.2,qg _ _ g1.1 g1.2,Option.bind_some,Option.bind_some,if_pos rfl,if_pos rfl,nZ,nZ];unfold okT at t0 t1;rw [Option.bind_some,if_pos t0,Option.bind_some,if_neg t1]
          · have t0':okT (s.f0+n)=false:=by simpa using t0
            rw [bad (by simp [okM,t0'])];refine Ev.step (f:=fun _=>some ([],20)) (fun k => ?_) (Ev.now _);rw [jG.l0,if_pos c1,if_pos c2,if_pos c1,hrd,qg _ _ g0.1 g0.2,qg _ _ g1.1 g1.2,Option.bind_some,Option.bind_some,if_pos rfl,if_pos rfl,nZ];unfold okT at t0;rw [Option.bind_some,if_neg t0]
        · have:okT (s.f1+n)=false:=by unfold okT;simp;omega
          rw [bad (by simp [okM,this])];refine Ev.step (f:=fun _=>some ([],20)) (fun k => ?_) (Ev.now _);rw [jG.l0,if_pos c1,if_pos c2,if_pos c1,hrd,qg _ _ g0.1 g0.2,add_not _ _ (by omega) hn g1,Option.bind_some,Option.bind_some,if_pos rfl,if_neg (by simp)]
      · have:okT (s.f0+n)=false:=by unfold okT;simp;omega
        rw [bad (by simp [okM,this])];refine Ev.step (f:=fun _=>some ([],20)) (fun k => ?_) (Ev.now _);by_cases g1 : -9223372036854775808≤s.f1+n∧s.f1+n≤9223372036854775807
        · rw [jG.l0,if_pos c1,if_pos c2,if_pos c1,hrd,add_not _ _ (by omega) hn g0,qg _ _ g1.1 g1.2,Option.bind_some,Option.bind_some,if_neg (by simp)]
        · rw [jG.l0,if_pos c1,if_pos c2,if_pos c1,hrd,add_not _ _ (by omega) hn g0,add_not _ _ (by omega) hn g1,Option.bind_some,Option.bind_some,if_neg (by simp)]
  have:=key l [] rfl rfl;exact this
theorem adE {x:Int}:okT x=true ↔ -1099511627776≤x∧x≤1099511627776:=by simp [okT]
theorem uW {n:Int} {s:Sp}:okM n s=true↔(-1099511627776≤s.f0+n∧s.f0+n≤1099511627776)∧(-1099511627776≤s.f1+n∧s.f1+n≤1099511627776):=by simp [okM,adE]
theorem SL.shift {lo hi:Int} (n:Int):∀ {l:List Sp} {lo:Int},SL lo hi l→SL (lo+n) (hi+n) (l.map (oH n))
  | [],_,_=>trivial
  | s :: r,lo,h=>by
    obtain ⟨h1,h2,h3,h4⟩:=h;refine ⟨by simp only [oH];omega,by simp only [oH];omega,by simp only [oH];omega,?_⟩;have:=SL.shift (lo:=lo) n h4;have e:(oH n s).f1+2=s.f1+2+n:=by simp only [oH];omega
    rw [e];exact this
theorem SL.within {lo' hi' hi:Int}:∀ {l:List Sp} {lo:Int},SL lo hi l→(∀ s∈l,lo'≤s.f0∧s.f1≤hi')→SL lo' hi' l
  | [],_,_,_=>trivial
  | s :: r,lo,h,hb=>by
    obtain ⟨h1,h2,h3,h4⟩:=h;refine ⟨(hb s (by simp)).1,h2,(hb s (by simp)).2,?_⟩;refine SL.within h4 (fun t ht=>⟨?_,(hb t (by simp [ht])).2⟩)
    exact (SL.ticks h4 ht).1
theorem SL.moved {n:Int} {l:List Sp} (h:SL (-1099511627776) 1099511627776 l) (ho:l.all (okM n)=true):SL (-1099511627776) 1099511627776 (l.map (oH n)):=by
  refine SL.within (SL.shift (lo:=0) n h) (fun s hs => ?_)
  obtain ⟨t,ht,rfl⟩:=List.mem_map.1 hs;have:=uW.1 (List.all_eq_true.1 ho t ht);simp only [oH];omega
end Go.Proofs.YtmbmalkpmanaaaaGreat.P
namespace Go.Proofs.YtmbmalkpmanaaaaGreat.P
set_option linter.unusedVariables false
set_option linter.unusedSimpArgs false
open Go.RowKit
abbrev Gn:=S50
def oq:List Sp→Int
  | []=>0
  | s :: _=>s.f0
def oh:List Sp→Int
  | []=>0
  | [s]=>s.f1
  | _ :: t :: r=>oh (t :: r)
theorem abj (l:List Sp) (s:Sp):oh (l++[s])=s.f1:=by
  induction l with
  | nil=>rfl
  | cons a r ih=>cases r with
    | nil=>rfl
    | cons b r=>exact ih
theorem SL.ends {lo hi:Int}:∀ {l:List Sp},SL lo hi l→l≠[]→lo≤oq l∧oq l≤oh l∧oh l≤hi
  | [],_,h=>absurd rfl h
  | [s],⟨a,b,c,_⟩,_=>⟨a,b,c⟩
  | s :: t :: r,⟨a,b,c,d⟩,_=>by
    obtain ⟨e1,e2,e3⟩:=SL.ends d (by simp);simp only [oq,oh] at *;exact ⟨a,by omega,e3⟩
theorem SL.between {lo hi:Int} {l:List Sp} (h:SL lo hi l) {s:Sp} (hs:s∈l):oq l≤s.f0∧s.f1≤oh l:=by
  induction l generalizing lo with
  | nil=>simp at hs
  | cons a r ih =>
    obtain ⟨h1,h2,h3,h4⟩:=h;cases r with
    | nil=>simp at hs;subst hs;exact ⟨Int.le_refl _,Int.le_refl _⟩
    | cons b r =>
      have e:=h4.ends (by simp);rcases List.mem_cons.1 hs with rfl | hs
      · simp only [oq,oh] at *;omega
      · have:=ih h4 hs;simp only [oq,oh] at *;omega
theorem SL.rQ {lo hi:Int} {l:List Sp} (h:SL lo hi l) {x:Int} (hx:lY l x=true):oq l≤x∧x≤oh l:=by
  obtain ⟨s,hs,h1,h2⟩:=o8.1 hx;have:=h.between hs;omega
theorem vP (n:Int) (l:List Sp) (h:l≠[]):oq (l.map (oH n))=oq l+n:=by
  cases l with
  | nil=>exact absurd rfl h
  | cons s r=>rfl
theorem tX (n:Int):∀ (l:List Sp),l≠[]→oh (l.map (oH n))=oh l+n
  | [],h=>absurd rfl h
  | [s],_=>rfl
  | s :: t :: r,_=>tX n (t :: r) (by simp)
theorem SL.qZ {n:Int} {l:List Sp} (h:SL (-1099511627776) 1099511627776 l) (hn:l≠[]):l.all (okM n)=true↔(-1099511627776≤oq l+n∧oh l+n≤1099511627776):=by
  constructor
  · intro ha
    have hm:=h.moved ha;have:=hm.ends (by simpa using hn);rw [vP n l hn,tX n l hn] at this;exact ⟨this.1,this.2.2⟩
  · intro ⟨h1,h2⟩
    rw [List.all_eq_true];intro s hs;have:=h.between hs;have:=h.ticks hs;rw [uW];omega
def lX:List Gn→Int→Option (List Sp)
  | [],_=>none
  | g :: r,i=>if g.f0=i then some g.f1 else lX r i
theorem pJ {odd:List Gn} {i:Int} {l:List Sp} (h:lX odd i=some l):∃ g∈odd,g.f0=i∧g.f1=l:=by
  induction odd with
  | nil=>cases h
  | cons g r ih =>
    simp only [lX] at h;split at h
    · cases h;exact ⟨g,by simp,‹_›,rfl⟩
    · obtain ⟨g',h1,h2⟩:=ih h;exact ⟨g',by simp [h1],h2⟩
theorem pK {odd:List Gn} {i:Int}:lX odd i=none↔∀ g∈odd,g.f0≠i:=by
  induction odd with
  | nil=>simp [lX]
  | cons g r ih =>
    simp only [lX,List.mem_cons,forall_eq_or_imp];by_cases h:g.f0=i
    · simp [h]
    · simp [h,ih]
theorem uX {odd:List Gn} (hu:odd.Pairwise (fun a b=>a.f0<b.f0)) {g:Gn} (hg:g∈odd):lX odd g.f0=some g.f1:=by
  induction odd with
  | nil=>simp at hg
  | cons a r ih =>
    obtain ⟨h1,h2⟩:=List.pairwise_cons.1 hu;simp only [lX];rcases List.mem_cons.1 hg with rfl | hg
    · rw [if_pos rfl]
    · have:=h1 g hg;rw [if_neg (by omega)];exact ih h2 hg
def jZ (c:Int) (core:List (List Sp)) (i:Int):List Sp:=if c=0 then [] else core.getD (i % c).toNat []
def fs (c:Int) (core:List (List Sp)) (odd:List Gn) (i:Int):List Sp:=match lX odd i with | some l=>l | none=>jZ c core i
def fb (p c:Int) (odd:List Gn) (i:Int):Int:=match lX odd i with | some _=>0 | none=>i / c*p
def gLo (p c:Int) (core:List (List Sp)) (odd:List Gn) (i:Int):Int:=oq (fs c core odd i)+fb p c odd i
def gHi (p c:Int) (core:List (List Sp)) (odd:List Gn) (i:Int):Int:=oh (fs c core odd i)+fb p c odd i
def inR (i:Int):Prop := -1099511627776≤i∧i≤1099511627776
instance (i:Int):Decidable (inR i):=by unfold inR;exact inferInstance
structure SF (p c:Int) (core:List (List Sp)) (odd:List Gn):Prop where
  hc:c=core.length
  hp0:0≤p
  hp1:p≤1099511627776
  hz:c=0↔p=0
  hcore:∀ l∈core,SL (-1099511627776) 1099511627776 l
  hodd:∀ g∈odd,SL (-1099511627776) 1099511627776 g.f1
  hidx:∀ g∈odd,inR g.f0
  hup:odd.Pairwise (fun a b=>a.f0<b.f0)
  hl:core.length≤6000
  hlo:odd.length≤6000
structure TF (p:Int) (core:List (List Sp)):Prop where
  ta:core.Pairwise (fun a b=>a≠[]→b≠[]→oh a<oq b)
  tb:∀ a∈core,∀ b∈core,a≠[]→b≠[]→oh a<oq b+p
variable {p c:Int} {core:List (List Sp)} {odd:List Gn}
theorem SF.pY (h:SF p c core odd):SF p c core []:=⟨h.hc,h.hp0,h.hp1,h.hz,h.hcore,by simp,by simp,List.Pairwise.nil,h.hl,by simp⟩
theorem SF.pO (h:SF p c core odd) (i:Int) (hc:c≠0):jZ c core i∈core:=by
  have h0:=h.hc;have h1:0≤i % c:=Int.emod_nonneg _ hc;have h2:i % c<c:=Int.emod_lt_of_pos _ (by omega);have h3:(i % c).toNat<core.length:=by omega
  unfold jZ;rw [if_neg hc,List.getD_eq_getElem?_getD,List.getElem?_eq_getElem h3];exact List.getElem_mem h3
theorem SF.abk (h:SF p c core odd) (i:Int):SL (-1099511627776) 1099511627776 (jZ c core i):=by
  by_cases hc:c=0
  · unfold jZ;rw [if_pos hc];trivial
  · exact h.hcore _ (h.pO i hc)
theorem SF.vG (h:SF p c core odd) (i:Int):SL (-1099511627776) 1099511627776 (fs c core odd i):=by
  unfold fs;cases ho:lX odd i with
  | none=>exact h.abk i
  | some l=>obtain ⟨g,hg,_,rfl⟩:=pJ ho;exact h.hodd g hg
theorem SF.oP (h:SF p c core odd) {i:Int} (hn:fs c core odd i≠[]):gLo p c core odd i≤gHi p c core odd i:=by
  have:=(h.vG i).ends hn;unfold gLo gHi;omega
theorem zC (h:SF p c core odd) (t:TF p core) {i k:Int} (hik:i<k) (hi:jZ c core i≠[]) (hk:jZ c core k≠[]):oh (jZ c core i)+i / c*p<oq (jZ c core k)+k / c*p:=by
  have hc:c≠0:=by intro e;apply hi;unfold jZ;rw [if_pos e]
  have h0:=h.hc;have hcp:0<c:=by omega
  have mi:=h.pO i hc;have mk:=h.pO k hc;have i1:0≤i % c:=Int.emod_nonneg _ hc;have i2:i % c<c:=Int.emod_lt_of_pos _ hcp;have k1:0≤k % c:=Int.emod_nonneg _ hc;have k2:k % c<c:=Int.emod_lt_of_pos _ hcp;have ei:=Int.mul_ediv_add_emod i c;have ek:=Int.mul_ediv_add_emod k c;rcases Int.lt_trichotomy (i / c) (k / c) with hq | hq | hq
  · have hb:=t.tb _ mi _ mk hi hk
    have:i / c*p+p≤k / c*p:=by
      have h1:(i / c+1)*p≤(k / c)*p:=Int.mul_le_mul_of_nonneg_right (by omega) h.hp0;rw [Int.add_mul,Int.one_mul] at h1;exact h1
    omega
  · rw [hq] at ei ⊢
    have hr:i % c<k % c:=by omega
    have hlt:(i % c).toNat<(k % c).toNat:=by omega
    have hkl:(k % c).toNat<core.length:=by omega
    have hil:(i % c).toNat<core.length:=by omega
    have e1:jZ c core i=core[(i % c).toNat]:=by unfold jZ;rw [if_neg hc,List.getD_eq_getElem?_getD,List.getElem?_eq_getElem hil];rfl
    have e2:jZ c core k=core[(k % c).toNat]:=by unfold jZ;rw [if_neg hc,List.getD_eq_getElem?_getD,List.getElem?_eq_getElem hkl];rfl
    have:=List.pairwise_iff_getElem.1 t.ta _ _ hil hkl hlt (by rw [← e1];exact hi) (by rw [← e2];exact hk);rw [← e1,← e2] at this;omega
  · exfalso
    have h1:c*(k / c)+c≤c*(i / c):=by
      have:c*(k / c+1)≤c*(i / c):=Int.mul_le_mul_of_nonneg_left (by omega) (by omega);rw [Int.mul_add,Int.mul_one] at this;exact this
    omega
def gap (c:Int) (core:List (List Sp)) (odd:List Gn) (i k:Int):Prop:=∀ m,i<m→m<k→fs c core odd m=[]
structure BF (p c:Int) (core:List (List Sp)) (odd:List Gn):Prop where
  up:∀ g∈odd,g.f1≠[]→∀ k,g.f0<k→inR k→fs c core odd k≠[]→gap c core odd g.f0 k→gHi p c core odd g.f0<gLo p c core odd k
  dn:∀ g∈odd,g.f1≠[]→∀ k,k<g.f0→inR k→fs c core odd k≠[]→gap c core odd k g.f0→gHi p c core odd k<gLo p c core odd g.f0
theorem acd (h:SF p c core odd) (t:TF p core) (b:BF p c core odd):∀ (n:Nat) (i k:Int),(k - i).toNat≤n→i<k→inR i→inR k→fs c core odd i≠[]→fs c core odd k≠[]→gHi p c core odd i<gLo p c core odd k:=by
  intro n;induction n with
  | zero=>intro i k hn hik;omega
  | succ n ih =>
    intro i k hn hik ri rk hi hk;by_cases hg:gap c core odd i k
    · cases hoi:lX odd i with
      | some l =>
        obtain ⟨g,hg1,rfl,rfl⟩:=pJ hoi;exact b.up g hg1 (by unfold fs at hi;rw [hoi] at hi;exact hi) k hik rk hk hg
      | none =>
        cases hok:lX odd k with
        | some l =>
          obtain ⟨g,hg1,rfl,rfl⟩:=pJ hok;exact b.dn g hg1 (by unfold fs at hk;rw [hok] at hk;exact hk) i hik ri hi hg
        | none =>
          have:=zC h t hik (by unfold fs at hi;rw [hoi] at hi;exact hi) (by unfold fs at hk;rw [hok] at hk;exact hk);unfold gHi gLo fs fb;rw [hoi,hok];exact this
    · have:∃ m,i<m∧m<k∧fs c core odd m≠[]:=Classical.byContradiction fun hx=>hg (fun m h1 h2=>Classical.byContradiction fun h3=>hx ⟨m,h1,h2,h3⟩)
      obtain ⟨m,h1,h2,h3⟩:=this;unfold inR at ri rk;have a1:=ih i m (by omega) h1 ri ⟨by omega,by omega⟩ hi h3;have a2:=ih m k (by omega) h2 ⟨by omega,by omega⟩ rk h3 hk;have a3:=h.oP h3;omega
structure FOK (p c:Int) (core:List (List Sp)) (odd:List Gn):Prop where
  s:SF p c core odd
  t:TF p core
  ord:∀ i k,i<k→inR i→inR k→fs c core odd i≠[]→fs c core odd k≠[]→gHi p c core odd i<gLo p c core odd k
theorem FOK.of (h:SF p c core odd) (t:TF p core) (b:BF p c core odd):FOK p c core odd:=⟨h,t,fun i k hik=>acd h t b _ i k (Nat.le_refl _) hik⟩
end Go.Proofs.YtmbmalkpmanaaaaGreat.P
namespace Go.Proofs.YtmbmalkpmanaaaaGreat.P
set_option linter.unusedVariables false
set_option linter.unusedSimpArgs false
open Go.RowKit Go.Proofs.YtmbmalkpmanaaaaGreatW.iD
variable {p c:Int} {core:List (List Sp)} {odd:List Gn}
theorem rdG (l:List Gn) (j:Nat) (hj:j<l.length):gW l (j:Int)=l[j]:=by simp [gW,hj]
theorem ae9 (a b:Int):cmp_Compare_int.f a b=some (if a<b then -1 else if a>b then 1 else 0):=by
  unfold cmp_Compare_int.f;by_cases h1:a<b
  · rw [if_pos h1];simp [cmp_isNaN_int.f,h1]
  · rw [if_neg h1];by_cases h2:a>b
    · rw [if_pos h2];simp [cmp_isNaN_int.f,h1,h2]
    · rw [if_neg h2];simp [cmp_isNaN_int.f,h1,h2]
theorem abl (a:Int) (l:List Sp) (b:Int):nE.f a l b=some (if a<b then -1 else if a>b then 1 else 0):=by
  unfold nE.f;rw [ae9];rfl
structure aex (odd:List Gn) (i:Int) (r:Int × Bool):Prop where
  low:0≤r.1
  high:r.1≤odd.length
  below:∀ j (hj:j<odd.length),(j:Int)<r.1→odd[j].f0<i
  above:∀ j (hj:j<odd.length),r.1≤(j:Int)→i≤odd[j].f0
  is:r.2=true→∃ (hj:r.1.toNat<odd.length),odd[r.1.toNat].f0=i
  no:r.2=false→lX odd i=none
theorem yN {l:List Gn} (h:l.Pairwise (fun a b=>a.f0<b.f0)) {i j:Nat} (hj:j<l.length) (hij:i<j):(l[i]'(by omega)).f0<l[j].f0:=List.pairwise_iff_getElem.1 h i j (by omega) hj hij
theorem wN (h:SF p c core odd) (i:Int):∃ r,Ev (fun k=>lG.f k p c core odd i) r∧aex odd i r:=by
  have hn:odd.length≤6000:=h.hlo;have key:∀ (d lo hi:Nat),hi - lo=d→lo≤hi→hi≤odd.length→(∀ j (hj:j<odd.length),j<lo→odd[j].f0<i)→(∀ j (hj:j<odd.length),hi≤j→i≤odd[j].f0) →
      ∃ r,Ev (fun k=>gX.l0 k odd i (odd.length:Int) (lo:Int) (hi:Int)) r∧aex odd i r:=by
    intro d;induction d using Nat.strongRecOn with
    | ind d ih =>
      intro lo hi hd hle hhn hlow hhigh;by_cases hlt:lo<hi
      · have c1:(lo:Int)<(hi:Int):=by omega
        have hm:=acT lo hi (by omega) hle;have hmid:(lo+hi) / 2<odd.length:=by omega
        have hrd:=rdG odd ((lo+hi) / 2) hmid;by_cases t:odd[(lo+hi) / 2].f0<i
        · obtain ⟨r,r1,r2⟩:=ih (hi - ((lo+hi) / 2+1)) (by omega) ((lo+hi) / 2+1) hi rfl (by omega) hhn (fun j hj h'=>by
            rcases Nat.lt_or_ge j ((lo+hi) / 2) with g | g
            · have:=yN h.hup hmid g;omega
            · have:j=(lo+hi) / 2:=by omega
              subst this;exact t) hhigh
          refine ⟨r,Ev.step (fun k => ?_) r1,r2⟩;have hw:wrap64 ((((lo+hi) / 2:Nat):Int)+1)=(((lo+hi) / 2+1:Nat):Int):=by rw [jl (by omega) (by omega)];simp
          rw [gX.l0,if_pos c1,hm,if_pos (by omega),if_pos (by omega),hrd,abl,if_pos t,Option.bind_some,if_pos (by omega),hw]
        · obtain ⟨r,r1,r2⟩:=ih ((lo+hi) / 2 - lo) (by omega) lo ((lo+hi) / 2) rfl (by omega) (by omega) hlow (fun j hj h'=>by
            rcases Nat.lt_or_ge ((lo+hi) / 2) j with g | g
            · have:=yN h.hup hj g;omega
            · have:j=(lo+hi) / 2:=by omega
              subst this;omega)
          refine ⟨r,Ev.step (fun k => ?_) r1,r2⟩;have hneg:¬ (if odd[(lo+hi) / 2].f0<i then (-1:Int) else if odd[(lo+hi) / 2].f0>i then 1 else 0)<0:=by rw [if_neg t];split <;> omega
          rw [gX.l0,if_pos c1,hm,if_pos (by omega),if_pos (by omega),hrd,abl,Option.bind_some,if_neg hneg]
      · have he:lo=hi:=by omega
        subst he;by_cases hlast:lo<odd.length
        · have hx:=hhigh lo hlast (by omega)
          refine ⟨((lo:Int),decide (odd[lo].f0=i)),Ev.step (f:=fun _=>some ((lo:Int),decide (odd[lo].f0=i))) (fun k => ?_) (Ev.now _),?_⟩
          · rw [gX.l0,if_neg (by omega),if_pos (by omega),if_pos (by omega),if_pos (by omega),rdG odd lo hlast,abl,if_neg (by omega),Option.bind_some]
            by_cases g:odd[lo].f0>i
            · have:¬ odd[lo].f0=i:=by omega
              simp [g,this]
            · have:odd[lo].f0=i:=by omega
              simp [g,this]
          · refine ⟨by omega,by show (lo:Int)≤_;omega,fun j hj hl=>hlow j hj (by simp only at hl;omega),fun j hj hl=>hhigh j hj (by simp only at hl;omega),fun e=>⟨by simpa using hlast,by simpa using e⟩,fun e => ?_⟩
            rw [pK];intro g hg;obtain ⟨j,hj,rfl⟩:=List.getElem_of_mem hg;have e':¬ odd[lo].f0=i:=by simpa using e
            rcases Nat.lt_or_ge j lo with g | g
            · have:=hlow j hj g;omega
            · rcases Nat.lt_or_ge lo j with g2 | g2
              · have:=yN h.hup hj g2;omega
              · have:j=lo:=by omega
                subst this;exact e'
        · refine ⟨((lo:Int),false),Ev.step (f:=fun _=>some ((lo:Int),false)) (fun k => ?_) (Ev.now _),?_⟩
          · rw [gX.l0,if_neg (by omega),if_neg (by omega)]
          · refine ⟨by omega,by show (lo:Int)≤_;omega,fun j hj hl=>hlow j hj (by simp only at hl;omega),fun j hj hl=>hhigh j hj (by simp only at hl;omega),(fun e=>by cases e),fun e => ?_⟩
            rw [pK];intro g hg;obtain ⟨j,hj,rfl⟩:=List.getElem_of_mem hg;have:=hlow j hj (by omega);omega
  obtain ⟨r,r1,r2⟩:=key _ 0 odd.length rfl (by omega) (Nat.le_refl _) (fun j hj h=>by omega) (fun j hj h=>by omega);refine ⟨r,?_,r2⟩;refine Ev.congr (fun k => ?_) (Ev.bind (f:=fun _ a=>some (a.1,a.2)) r1 (Ev.now _));simp only [lG.f,gX.f];rfl
theorem iLt (a b:Int):a<b∨b≤a:=by omega
theorem wO (a b:Int) (ha : -4611686018427387904≤a∧a≤4611686018427387904) (hb:0<b∧b≤4611686018427387904):Ev (fun k=>jD.f k a b) (a / b,a % b,0):=by
  have h1:=Int.emod_nonneg a (show b≠0 by omega);have h2:=Int.emod_lt_of_pos a hb.1;have h3:=Int.mul_ediv_add_emod a b;have hq : -4611686018427387904≤a / b∧a / b≤4611686018427387904:=by
    constructor
    · rcases iLt (a / b) (-4611686018427387904) with h | h
      · exfalso
        have:b*(a / b)≤1*(a / b):=Int.mul_le_mul_of_nonpos_right (by omega) (by omega);have e:(1:Int)*(a / b)=a / b:=Int.one_mul _;rw [e] at this;by_cases hb1:b=1
        · subst hb1;omega
        · have:b*(a / b)≤2*(a / b):=Int.mul_le_mul_of_nonpos_right (by omega) (by omega)
          omega
      · exact h
    · rcases iLt 4611686018427387904 (a / b) with h | h
      · exfalso
        have:1*(a / b)≤b*(a / b):=Int.mul_le_mul_of_nonneg_right (by omega) (by omega);have e:(1:Int)*(a / b)=a / b:=Int.one_mul _;rw [e] at this;omega
      · exact h
  refine Ev.congr (f:=fun k=>jD.j0 k a b false) (fun k => ?_) ?_
  · unfold jD.f;rw [if_neg (by omega),if_neg (by omega)]
  refine Ev.step (f:=fun _=>some (a / b,a % b,0)) (fun k => ?_) (Ev.now _);rw [jD.j0,if_neg (by simp),if_neg (by omega)];have ht:=Int.tmod_add_mul_tdiv a b;rcases iLt a 0 with hneg | hpos
  · -- below 0
    by_cases hz:Int.tmod a b=0
    · rw [if_pos hz]
      have hdvd:b ∣ a:=Int.dvd_of_tmod_eq_zero hz;have e1:a % b=0:=Int.emod_eq_zero_of_dvd hdvd;have e2:Int.tdiv a b=a / b:=by
        have:b*Int.tdiv a b=b*(a / b):=by rw [hz] at ht;omega
        exact Int.eq_of_mul_eq_mul_left (by omega) this
      rw [e2,hz,e1,jl (by omega) (by omega)]
    · have t1:Int.tmod a b≤0:=(by have h0:=Int.tmod_nonneg b (show 0 ≤ -a by omega);rw [Int.neg_tmod] at h0;omega)
      have t2 : -b<Int.tmod a b:=by
        have:=Int.lt_tmod_of_pos a hb.1;omega
      have e2:Int.tdiv a b=a / b+1:=by
        have k1:b*(a / b - Int.tdiv a b)=Int.tmod a b - a % b:=by rw [Int.mul_sub];omega
        have k2:a / b - Int.tdiv a b<0:=by
          rcases iLt (a / b - Int.tdiv a b) 0 with g | g
          · exact g
          · have:0≤b*(a / b - Int.tdiv a b):=Int.mul_nonneg (by omega) g
            omega
        have k3 : -2<a / b - Int.tdiv a b:=by
          rcases iLt (-2) (a / b - Int.tdiv a b) with g | g
          · exact g
          · have:b*(a / b - Int.tdiv a b)≤b*(-2):=Int.mul_le_mul_of_nonneg_left g (by omega)
            omega
        omega
      have e1:Int.tmod a b+b=a % b:=by
        have:b*Int.tdiv a b=b*(a / b)+b:=by rw [e2,Int.mul_add,Int.mul_one]
        omega
      rw [if_neg hz];have hx:((decide ((Int.tmod a b)<0)) != (decide (b<0)))=true:=by
        have a1:Int.tmod a b<0:=by omega
        have a2:¬ b<0:=by omega
        simp [a1,a2]
      rw [if_pos hx,e2,e1,jl (n:=a / b+1) (by omega) (by omega),jl (n:=a / b+1 - 1) (by omega) (by omega),jl (n:=a % b) (by omega) (by omega)];simp
  · have e1:Int.tmod a b=a % b:=Int.tmod_eq_emod_of_nonneg hpos
    have e2:Int.tdiv a b=a / b:=Int.tdiv_eq_ediv_of_nonneg hpos;rw [e1,e2,jl (n:=a / b) (by omega) (by omega)];by_cases hz:a % b=0
    · rw [if_pos hz]
    · rw [if_neg hz]
      have hx:¬ ((decide ((a % b)<0)) != (decide (b<0)))=true:=by
        have a1:¬ a % b<0:=by omega
        have a2:¬ b<0:=by omega
        simp [a1,a2]
      rw [if_neg hx]
end Go.Proofs.YtmbmalkpmanaaaaGreat.P
namespace Go.Proofs.YtmbmalkpmanaaaaGreat.P
set_option linter.unusedVariables false
set_option linter.unusedSimpArgs false
open Go.RowKit Go.Proofs.YtmbmalkpmanaaaaGreatW.iD
theorem wrap_u64 (n:Int):IntKind.u64.wrap n=n % 18446744073709551616:=by simp [IntKind.wrap,IntKind.bits,IntKind.signed]
theorem wraps_u64 (n:Int) (h₀:0≤n) (h₁:n<2 ^ 64):IntKind.u64.wrap n=n:=by rw [wrap_u64];omega
theorem yO (x:Int) (h0:0≤x) (h1:x<18446744073709551616):Go.bits .and .u64 x 4294967295=x % 4294967296:=bits_mask .u64 64 (by decide) wraps_u64 32 (by decide) x h0 h1
theorem zD (u v:Int) (hu:0≤u) (hu':u≤4294967295) (hv:0≤v) (hv':v≤4294967295):0≤u*v∧u*v≤18446744065119617025:=by
  refine ⟨Int.mul_nonneg hu hv,?_⟩;have:=Int.mul_le_mul hu' hv' hv (show (0:Int)≤4294967295 by omega);omega
theorem adF (a b:Int) (ha:0≤a∧a<18446744073709551616) (hb:0≤b∧b<18446744073709551616):bits_Mul64.f a b=some (a*b / 18446744073709551616,a*b % 18446744073709551616):=by
  obtain ⟨a1,ha1⟩:∃ a1,a / 4294967296=a1:=⟨_,rfl⟩;obtain ⟨a0,ha0⟩:∃ a0,a % 4294967296=a0:=⟨_,rfl⟩;obtain ⟨b1,hb1⟩:∃ b1,b / 4294967296=b1:=⟨_,rfl⟩;obtain ⟨b0,hb0⟩:∃ b0,b % 4294967296=b0:=⟨_,rfl⟩;have ea:a=a1*4294967296+a0:=by omega
  have eb:b=b1*4294967296+b0:=by omega
  have x1:=zD a0 b0 (by omega) (by omega) (by omega) (by omega);have y1:=zD a1 b0 (by omega) (by omega) (by omega) (by omega);have z1:=zD a0 b1 (by omega) (by omega) (by omega) (by omega);have v1:=zD a1 b1 (by omega) (by omega) (by omega) (by omega);have id:a*b=a1*b1*18446744073709551616+(a1*b0+a0*b1)*4294967296+a0*b0:=by rw [ea,eb];grind
  have hN:a*b<18446744073709551616*18446744073709551616:=by
    have:=Int.mul_le_mul (show a≤18446744073709551615 by omega) (show b≤18446744073709551615 by omega) hb.1 (by omega);omega
  unfold bits_Mul64.f;rw [yO a ha.1 ha.2,yO b hb.1 hb.2,ha1,ha0,hb1,hb0];rw [wrap_u64 (a*b),id];rw [id] at hN;obtain ⟨x,hx⟩:∃ x,a0*b0=x:=⟨_,rfl⟩;obtain ⟨y,hy⟩:∃ y,a1*b0=y:=⟨_,rfl⟩;obtain ⟨z,hz⟩:∃ z,a0*b1=z:=⟨_,rfl⟩;obtain ⟨v,hv⟩:∃ v,a1*b1=v:=⟨_,rfl⟩;simp only [hx,hy,hz,hv] at x1 y1 z1 v1 hN ⊢;rw [wraps_u64 x (by omega) (by omega),wraps_u64 y (by omega) (by omega),wraps_u64 z (by omega) (by omega),wraps_u64 v (by omega) (by omega)];rw [wraps_u64 (y+x / 4294967296) (by omega) (by omega)];rw [yO (y+x / 4294967296) (by omega) (by omega)];rw [wraps_u64 ((y+x / 4294967296) % 4294967296+z) (by omega) (by omega)];rw [wraps_u64 (v+(y+x / 4294967296) / 4294967296) (by omega) (by omega)];rw [wraps_u64 (v+(y+x / 4294967296) / 4294967296+((y+x / 4294967296) % 4294967296+z) / 4294967296) (by omega) (by omega)];congr 1;refine Prod.ext ?_ rfl;show v+(y+x / 4294967296) / 4294967296+((y+x / 4294967296) % 4294967296+z) / 4294967296=(v*18446744073709551616+(y+z)*4294967296+x) / 18446744073709551616;omega
theorem acU (a:Int) (h1 : -9223372036854775808≤a) (h2:a≤9223372036854775807):mP.f a=some (if a<0 then -a else a):=by
  unfold mP.f;by_cases h:a<0
  · rw [if_pos h,if_pos h,wrap_u64,wrap_u64]
    congr 1
    omega
  · rw [if_neg h,if_neg h,wrap_u64]
    congr 1
    omega
def yg (a b:Int):Int × Int:=if -9223372036854775808≤a*b∧a*b≤9223372036854775807 then (a*b,0) else (0,10)
theorem aey (a b:Int) (ha : -9223372036854775808≤a∧a≤9223372036854775807) (hb:0≤b∧b≤9223372036854775807):Ev (fun k=>nT.f k a b) (yg a b):=by
  have sb:mP.f b=some b:=by rw [acU b (by omega) (by omega),if_neg (by omega)]
  obtain ⟨n,hn⟩:∃ n,(if a<0 then -a else a)=n:=⟨_,rfl⟩;have sa:mP.f a=some n:=by rw [acU a (by omega) (by omega),hn]
  have hn0:0≤n∧n≤9223372036854775808:=by split at hn <;> omega
  have hm:n*b=if a<0 then -(a*b) else a*b:=by
    rw [← hn];split
    · rw [Int.neg_mul]
    · rfl
  have hp:0≤n*b:=Int.mul_nonneg hn0.1 hb.1;have hbd:(decide (b<0))=false:=by simp;omega
  unfold nT.f;simp only [sa,sb,Option.bind_some,adF n b (by omega) (by omega),hbd];by_cases hhi:n*b / 18446744073709551616=0
  · have hlt:n*b<18446744073709551616:=by omega
    have hmod:n*b % 18446744073709551616=n*b:=by omega
    simp only [hhi,hmod,if_true];by_cases hs:a<0
    · have e1:((decide (a<0)) != false)=true:=by simp [hs]
      rw [if_pos hs] at hm;simp only [e1,jy.f,if_true];by_cases hz:n*b≤9223372036854775808
      · refine Ev.congr (f:=fun k=>(jy.j0 k (n*b) true true).bind fun bt=>some (bt.1,bt.2)) (fun k=>by simp [hz]) ?_
        refine Ev.bind (a:=(a*b,0)) (Ev.step (f:=fun _=>some (a*b,0)) (fun k => ?_) (Ev.now _)) ?_
        · rw [jy.j0,if_pos rfl,wrap_u64]
          congr 2
          unfold wrap64;omega
        · have:yg a b=(a*b,0):=by unfold yg;rw [if_pos (by omega)]
          rw [this];exact Ev.now _
      · refine Ev.congr (f:=fun k=>(jy.j0 k (n*b) true false).bind fun bt=>some (bt.1,bt.2)) (fun k=>by simp [hz]) ?_
        refine Ev.bind (a:=(0,10)) (Ev.step (f:=fun _=>some (0,10)) (fun k => ?_) (Ev.now _)) ?_
        · rw [jy.j0,if_neg (by simp),if_pos rfl]
        · have:yg a b=(0,10):=by unfold yg;rw [if_neg (by omega)]
          rw [this];exact Ev.now _
    · have e1:((decide (a<0)) != false)=false:=by simp [hs]
      rw [if_neg hs] at hm;simp only [e1,jy.f];refine Ev.congr (f:=fun k=>(jy.j0 k (n*b) false false).bind fun bt=>some (bt.1,bt.2)) (fun k=>by simp) ?_;by_cases hz:n*b≤9223372036854775807
      · refine Ev.bind (a:=(a*b,0)) (Ev.step (f:=fun _=>some (a*b,0)) (fun k => ?_) (Ev.now _)) ?_
        · rw [jy.j0,if_neg (by simp),if_neg (by simp),if_pos hz]
          congr 2
          unfold wrap64;omega
        · have:yg a b=(a*b,0):=by unfold yg;rw [if_pos (by omega)]
          rw [this];exact Ev.now _
      · refine Ev.bind (a:=(0,10)) (Ev.step (f:=fun _=>some (0,10)) (fun k => ?_) (Ev.now _)) ?_
        · rw [jy.j0,if_neg (by simp),if_neg (by simp),if_neg hz]
        · have:yg a b=(0,10):=by unfold yg;rw [if_neg (by omega)]
          rw [this];exact Ev.now _
  · refine Ev.congr (f:=fun _=>some (0,10)) (fun k=>by simp only [hhi,if_false]) ?_
    have:yg a b=(0,10):=by
      unfold yg;rw [if_neg];split at hm <;> omega
    rw [this];exact Ev.now _
end Go.Proofs.YtmbmalkpmanaaaaGreat.P
namespace Go.Proofs.YtmbmalkpmanaaaaGreat.P
set_option linter.unusedVariables false
set_option linter.unusedSimpArgs false
open Go.RowKit Go.Proofs.YtmbmalkpmanaaaaGreatW.iD
variable {p c:Int} {core:List (List Sp)} {odd:List Gn}
theorem rdL (l:List (List Sp)) (j:Nat) (hj:j<l.length):jr l (j:Int)=l[j]:=by simp [jr,hj]
theorem afx (l:List Gn) (x:Int) (hj:x.toNat<l.length):gW l x=l[x.toNat]:=by simp [gW,hj]
theorem afr (l:List (List Sp)) (x:Int) (hj:x.toNat<l.length):jr l x=l[x.toNat]:=by simp [jr,hj]
def tY (p c:Int) (core:List (List Sp)) (odd:List Gn) (i:Int):List Sp × Int × Int :=
  match lX odd i with | some l=>(l,0,0) | none=>if c=0 then ([],0,0) else (jZ c core i,yg (i / c) p)
theorem xR (i:Int):(tY p c core odd i).1=fs c core odd i:=by
  unfold tY fs;cases lX odd i with
  | some l=>rfl
  | none => by_cases hc:c=0
            · simp [hc,jZ]
            · simp [hc]
theorem abm (h:SF p c core odd) (i:Int) (hi : -4611686018427387904≤i∧i≤4611686018427387904):Ev (fun k=>lN.f k p c core odd i) (tY p c core odd i):=by
  obtain ⟨r,r1,r2⟩:=wN h i;have hc0:=h.hc;have hl0:=h.hl;refine Ev.congr (fun k=>by unfold lN.f;rfl) (Ev.bind r1 ?_);by_cases hr:r.2=true
  · obtain ⟨hj,he⟩:=r2.is hr
    have e1:(r.1.toNat:Int)=r.1:=Int.toNat_of_nonneg r2.low;have hv:tY p c core odd i=(odd[r.1.toNat].f1,0,0):=by
      unfold tY;rw [← he,uX h.hup (List.getElem_mem hj)]
    rw [hv];refine Ev.congr (f:=fun _=>some (odd[r.1.toNat].f1,0,0)) (fun k => ?_) (Ev.now _);rw [if_pos hr,if_pos r2.low,if_pos (by omega),afx odd _ hj]
  · have hr':r.2=false:=by simpa using hr
    have hno:=r2.no hr';by_cases hc:c=0
    · have hv:tY p c core odd i=([],0,0):=by unfold tY;rw [hno];simp [hc]
      rw [hv];refine Ev.congr (f:=fun _=>some ([],0,0)) (fun k => ?_) (Ev.now _);rw [if_neg hr,if_pos hc]
    · have hv:tY p c core odd i=(jZ c core i,yg (i / c) p):=by unfold tY;rw [hno];simp [hc]
      rw [hv];refine Ev.congr (fun k=>by rw [if_neg hr,if_neg hc]) (Ev.bind (wO i c hi (by omega)) ?_);have h1:=Int.emod_nonneg i hc;have h2:=Int.emod_lt_of_pos i (show 0<c by omega);have hq : -4611686018427387904≤i / c∧i / c≤4611686018427387904:=by
        have h3:=Int.mul_ediv_add_emod i c;constructor
        · rcases iLt (i / c) (-4611686018427387904) with g | g
          · exfalso
            have:c*(i / c)≤1*(i / c):=Int.mul_le_mul_of_nonpos_right (by omega) (by omega);rw [Int.one_mul] at this;by_cases hc1:c=1
            · subst hc1;omega
            · have:c*(i / c)≤2*(i / c):=Int.mul_le_mul_of_nonpos_right (by omega) (by omega)
              omega
          · exact g
        · rcases iLt 4611686018427387904 (i / c) with g | g
          · exfalso
            have:1*(i / c)≤c*(i / c):=Int.mul_le_mul_of_nonneg_right (by omega) (by omega);rw [Int.one_mul] at this;omega
          · exact g
      have hp0:=h.hp0;have hp1:=h.hp1;refine Ev.bind (aey (i / c) p (by omega) (by omega)) ?_;refine Ev.congr (f:=fun _=>some (jZ c core i,yg (i / c) p)) (fun k => ?_) (Ev.now _);simp only;have e1:((i % c).toNat:Int)=i % c:=Int.toNat_of_nonneg h1;have h4:(i % c).toNat<core.length:=by omega
      have e2:jZ c core i=core[(i % c).toNat]:=by unfold jZ;rw [if_neg hc,List.getD_eq_getElem?_getD,List.getElem?_eq_getElem h4];rfl
      rw [if_pos h1,if_pos (by omega),e2,afr core _ h4]
def mZ (p c:Int) (core:List (List Sp)) (odd:List Gn) (i:Int):List Sp × Int :=
  if inR i then (if fs c core odd i=[] then ([],0) else qI (fb p c odd i) (fs c core odd i)) else ([],20)
theorem nP (i:Int):kH.f i=some (decide (inR i)):=by
  unfold kH.f inR;by_cases h:i ≥ -1099511627776
  · have h2 : -1099511627776≤i:=h
    rw [if_pos h];simp [h2]
  · have h2:¬ -1099511627776≤i:=h
    rw [if_neg h];simp [h2]
theorem rF (h:SF p c core odd) (i:Int):Ev (fun k=>kC.f k p c core odd i) (mZ p c core odd i):=by
  unfold kC.f mZ;by_cases hi:inR i
  · simp only [nP,Option.bind_some,hi,decide_true,if_true]
    have hi':=hi;unfold inR at hi';refine Ev.bind (abm h i (by omega)) ?_;have hk:=xR (p:=p) (c:=c) (core:=core) (odd:=odd) i;have aa:=h.vG i;by_cases hz:fs c core odd i=[]
    · rw [if_pos hz]
      refine Ev.congr (f:=fun _=>some ([],0)) (fun k => ?_) (Ev.now _);rw [hk,hz];rfl
    · rw [if_neg hz]
      have hlen:¬ ((fs c core odd i).length:Int)=0:=by
        intro e;exact hz (List.eq_nil_of_length_eq_zero (by omega))
      simp only [hk,if_neg hlen];have ab:=aa.ends hz;by_cases he:(tY p c core odd i).2.2=0
      · simp only [if_pos he]
        have hb:(tY p c core odd i).2.1=fb p c odd i ∧ -9223372036854775808≤fb p c odd i∧fb p c odd i≤9223372036854775807:=by
          unfold tY at he ⊢;unfold fb;cases ho:lX odd i with
          | some l=>simp
          | none =>
            simp only [ho] at he ⊢;by_cases hc:c=0
            · subst hc;simp
            · simp only [if_neg hc,yg] at he ⊢
              split at he
              · rename_i hm;simp only [if_pos hm];exact ⟨trivial,hm⟩
              · simp at he
        simp only [hb.1];refine Ev.congr (fun k=>rfl) (Ev.bind (f:=fun _ a=>some (a.1,a.2)) (adD _ _ aa hb.2) (Ev.now _))
      · simp only [if_neg he]
        have hb:fb p c odd i < -9223372036854775808∨9223372036854775807<fb p c odd i:=by
          unfold tY at he;unfold fb;cases ho:lX odd i with
          | some l=>simp [ho] at he
          | none =>
            simp only [ho] at he ⊢;by_cases hc:c=0
            · simp [hc] at he
            · simp only [if_neg hc,yg] at he
              split at he
              · simp at he
              · omega
        have hm:qI (fb p c odd i) (fs c core odd i)=([],20):=by
          unfold qI;rw [if_neg];rw [aa.qZ hz];omega
        rw [hm];exact Ev.now _
  · simp only [nP,Option.bind_some,hi,decide_false]
    exact Ev.now _
theorem wP (h:SF p c core odd) (i:Int) (hi:inR i):Ev (fun k=>kW.f k p c core odd i) (decide (fs c core odd i≠[])):=by
  unfold inR at hi;refine Ev.congr (fun k=>by unfold kW.f;rfl) (Ev.bind (abm h i (by omega)) ?_);refine Ev.congr (f:=fun _=>some (decide (fs c core odd i≠[]))) (fun k => ?_) (Ev.now _);rw [xR];congr 1;cases fs c core odd i with
  | nil=>simp
  | cons s r=>simp
theorem abn (h:SF p c core odd):∃ b,Ev (fun k=>lW.f k p c core odd) b∧(b=true↔∀ l∈core,l=[]):=by
  have hl0:=h.hl;have key:∀ (rest pre:List (List Sp)),core=pre++rest→(∀ l∈pre,l=[])→∃ r:Int,Ev (fun k=>iR.l0 k core (core.length:Int) (pre.length:Int)) r∧(r<0↔∀ l∈core,l=[]):=by
    intro rest;induction rest with
    | nil =>
      intro pre hp he;refine ⟨-1,Ev.step (f:=fun _=>some (-1)) (fun k => ?_) (Ev.now _),?_⟩
      · rw [iR.l0,if_neg (by rw [hp];simp)]
      · simp only [List.append_nil] at hp
        subst hp;exact ⟨fun _=>he,fun _=>by omega⟩
    | cons l r ih =>
      intro pre hp he;have hlen:pre.length+1≤core.length:=by rw [hp];simp
      have hrd:jr core (pre.length:Int)=l:=by rw [hp];simp [jr]
      have c1:(pre.length:Int)<(core.length:Int):=by omega
      by_cases hz:l=[]
      · obtain ⟨x,x1,x2⟩:=ih (pre++[l]) (by rw [hp];simp) (fun y hy=>by rcases List.mem_append.1 hy with hy | hy;exact he y hy;simp at hy;rw [hy];exact hz)
        refine ⟨x,Ev.step (fun k => ?_) x1,x2⟩;have hw:wrap64 ((pre.length:Int)+1)=((pre++[l]).length:Int):=by rw [jl (by omega) (by omega)];simp
        rw [iR.l0,if_pos c1,if_pos (by omega),if_pos c1,hrd,hw,hz];rfl
      · refine ⟨(pre.length:Int),Ev.step (f:=fun _=>some (pre.length:Int)) (fun k => ?_) (Ev.now _),?_⟩
        · rw [iR.l0,if_pos c1,if_pos (by omega),if_pos c1,hrd]
          cases l with
          | nil=>exact absurd rfl hz
          | cons s t=>simp [oW.f]
        · constructor
          · intro e;omega
          · intro e;exact absurd (e l (by rw [hp];simp)) hz
  obtain ⟨r,r1,r2⟩:=key core [] rfl (by simp);refine ⟨decide (r<0),?_,by simpa using r2⟩;unfold lW.f jN.f iR.f;refine Ev.bind (a:=decide (r≥0)) (Ev.bind r1 (Ev.now _)) ?_;have:(!decide (r≥0))=decide (r<0):=by by_cases g:r<0 <;> simp [g] <;> omega
  rw [this];exact Ev.now _
def zF (c:Int) (core:List (List Sp)) (odd:List Gn) (a:Int) (r:Int × Bool):Prop :=
  (r.2=true→a≤r.1∧inR r.1∧fs c core odd r.1≠[]∧∀ m,a≤m→m<r.1→fs c core odd m=[])∧(r.2=false→r.1=0∧∀ m,a≤m→inR m→fs c core odd m=[])
def xS (c:Int) (core:List (List Sp)) (odd:List Gn) (a:Int) (r:Int × Bool):Prop :=
  (r.2=true→r.1≤a∧inR r.1∧fs c core odd r.1≠[]∧∀ m,m≤a→r.1<m→fs c core odd m=[])∧(r.2=false→r.1=0∧∀ m,m≤a→inR m→fs c core odd m=[])
theorem wQ (h:SF p c core odd) (hb:∀ l∈core,l=[]) {m:Int} (hm:fs c core odd m≠[]):∃ j,∃ hj:j<odd.length,odd[j].f0=m∧odd[j].f1≠[]:=by
  unfold fs at hm;cases ho:lX odd m with
  | some l =>
    obtain ⟨g,hg,e1,e2⟩:=pJ ho;obtain ⟨j,hj,rfl⟩:=List.getElem_of_mem hg;exact ⟨j,hj,e1,by rw [ho] at hm;rw [e2];exact hm⟩
  | none =>
    rw [ho] at hm;by_cases hc:c=0
    · exact absurd (by simp [jZ,hc]) hm
    · exact absurd (hb _ (h.pO m hc)) hm
theorem xU (h:SF p c core odd) {j:Nat} (hj:j<odd.length):fs c core odd odd[j].f0=odd[j].f1:=by
  unfold fs;rw [uX h.hup (List.getElem_mem hj)]
theorem aal (h:SF p c core odd) (a:Int) (ha : -1099511627776≤a∧a≤1099511627777):∃ r,Ev (fun k=>iB.f k p c core odd a 1) r∧zF c core odd a r:=by
  have hlo:=h.hlo;obtain ⟨b,b1,b2⟩:=abn h;by_cases hb:b=true
  · have hbare:=b2.1 hb
    obtain ⟨r,r1,r2⟩:=wN h a;have key:∀ (d n:Nat),odd.length - n=d→n≤odd.length→(∀ j (hj:j<odd.length),j<n→odd[j].f0<a∨odd[j].f1=[])→(∀ j (hj:j<odd.length),n≤j→a≤odd[j].f0) →
        ∃ x,Ev (fun k=>iB.l0 k 1 (n:Int) p c core odd) x∧zF c core odd a x:=by
      intro d;induction d with
      | zero =>
        intro n hd hn h1 h2;have hnn:n=odd.length:=by omega
        refine ⟨(0,false),Ev.step (f:=fun k=>iB.j3 k 1 (n:Int) false p c core odd) (fun k => ?_) (Ev.step (f:=fun _=>some (0,false)) (fun k => ?_) (Ev.now _)),(fun e=>by cases e),fun _=>⟨rfl,fun m hm _ => ?_⟩⟩
        · rw [iB.l0,if_pos (by omega)]
          have:decide ((n:Int)<(odd.length:Int))=false:=by simp;omega
          rw [this]
        · rw [iB.j3,if_neg (by simp)]
        · refine Classical.byContradiction fun hne => ?_
          obtain ⟨j,hj,e1,e2⟩:=wQ h hbare hne;rcases h1 j hj (by omega) with g | g
          · omega
          · exact e2 g
      | succ d ih =>
        intro n hd hn h1 h2;have hlt:n<odd.length:=by omega
        have hdec:decide ((n:Int)<(odd.length:Int))=true:=by simp;omega
        by_cases hz:odd[n].f1=[]
        · obtain ⟨x,x1,x2⟩:=ih (n+1) (by omega) (by omega) (fun j hj hjn=>by
            rcases Nat.lt_or_ge j n with g | g
            · exact h1 j hj g
            · have:j=n:=by omega
              subst this;exact .inr hz) (fun j hj hjn=>h2 j hj (by omega))
          refine ⟨x,Ev.step (f:=fun k=>iB.j3 k 1 (n:Int) true p c core odd) (fun k => ?_) (Ev.step (fun k => ?_) x1),x2⟩
          · rw [iB.l0,if_pos (by omega),hdec]
          · have hw:wrap64 ((n:Int)+1)=((n+1:Nat):Int):=by rw [jl (by omega) (by omega)];simp
            rw [iB.j3,if_pos rfl,if_pos (by omega),if_pos (by omega),rdG odd n hlt,if_neg (by rw [hz];simp),hw]
        · refine ⟨(odd[n].f0,true),Ev.step (f:=fun k=>iB.j3 k 1 (n:Int) true p c core odd) (fun k => ?_) (Ev.step (f:=fun _=>some (odd[n].f0,true)) (fun k => ?_) (Ev.now _)),fun _=>⟨h2 n hlt (Nat.le_refl _),h.hidx _ (List.getElem_mem hlt),by rw [xU h hlt];exact hz,fun m hm1 hm2 => ?_⟩,(fun e=>by cases e)⟩
          · rw [iB.l0,if_pos (by omega),hdec]
          · have:0<odd[n].f1.length:=List.length_pos_iff.2 hz
            rw [iB.j3,if_pos rfl,if_pos (by omega),if_pos (by omega),rdG odd n hlt,if_pos (by omega)]
          · refine Classical.byContradiction fun hne => ?_
            obtain ⟨j,hj,e1,e2⟩:=wQ h hbare hne;rcases Nat.lt_or_ge j n with g | g
            · rcases h1 j hj g with g2 | g2
              · omega
              · exact e2 g2
            · rcases Nat.lt_or_ge n j with g2 | g2
              · have:=yN h.hup hj g2;simp only at hm2;omega
              · have:j=n:=by omega
                subst this;simp only at hm2;omega
    have e1:(r.1.toNat:Int)=r.1:=Int.toNat_of_nonneg r2.low;have hhi:=r2.high;obtain ⟨x,x1,x2⟩:=key _ r.1.toNat rfl (by omega) (fun j hj hjn=>.inl (r2.below j hj (by omega))) (fun j hj hjn=>r2.above j hj (by omega));rw [e1] at x1;refine ⟨x,?_,x2⟩;unfold iB.f;refine Ev.bind b1 ?_;refine Ev.congr (fun k=>by rw [if_pos hb]) (Ev.bind r1 ?_);refine Ev.congr (fun k=>by rw [if_neg (by omega)]) ?_;refine Ev.step (f:=fun k=>iB.j1 k 1 r.1 p c core odd) (fun k=>by rw [iB.j0,if_neg (by simp)]) ?_;exact Ev.step (fun k=>by rw [iB.j1]) x1
  · have key:∀ (d:Nat) (i:Int),(1099511627777 - i).toNat=d→a≤i→i≤1099511627777→(∀ m,a≤m→m<i→fs c core odd m=[])→∃ x,Ev (fun k=>iB.l1 k 1 i p c core odd) x∧zF c core odd a x:=by
      intro d;induction d with
      | zero =>
        intro i hd h1 h2 h3;have hi:¬ inR i:=by unfold inR;omega
        refine ⟨(0,false),Ev.step (f:=fun _=>some (0,false)) (fun k => ?_) (Ev.now _),(fun e=>by cases e),fun _=>⟨rfl,fun m hm hr=>h3 m hm (by unfold inR at hr;omega)⟩⟩;rw [iB.l1,nP];simp [hi]
      | succ d ih =>
        intro i hd h1 h2 h3;have hi:inR i:=by unfold inR;omega
        by_cases hz:fs c core odd i=[]
        · obtain ⟨x,x1,x2⟩:=ih (i+1) (by omega) (by omega) (by omega) (fun m hm1 hm2=>by
            rcases iLt m i with g | g
            · exact h3 m hm1 g
            · have:m=i:=by omega
              subst this;exact hz)
          refine ⟨x,?_,x2⟩;refine Ev.step (f:=fun k=>(kW.f k p c core odd i).bind fun t=>if t=true then some (i,true) else iB.l1 k 1 (wrap64 (i+1)) p c core odd) (fun k=>by rw [iB.l1,nP];simp [hi]) ?_;refine Ev.bind (wP h i hi) ?_;refine Ev.congr (fun k => ?_) x1;rw [if_neg (by simp [hz]),jl (by omega) (by omega)]
        · refine ⟨(i,true),?_,fun _=>⟨h1,hi,hz,h3⟩,(fun e=>by cases e)⟩
          refine Ev.step (f:=fun k=>(kW.f k p c core odd i).bind fun t=>if t=true then some (i,true) else iB.l1 k 1 (wrap64 (i+1)) p c core odd) (fun k=>by rw [iB.l1,nP];simp [hi]) ?_;refine Ev.bind (wP h i hi) ?_;exact Ev.congr (fun k=>by rw [if_pos (by simp [hz])]) (Ev.now _)
    obtain ⟨x,x1,x2⟩:=key _ a rfl (Int.le_refl _) ha.2 (fun m h1 h2=>by omega);refine ⟨x,?_,x2⟩;unfold iB.f;exact Ev.bind b1 (Ev.congr (fun k=>by rw [if_neg hb]) x1)
end Go.Proofs.YtmbmalkpmanaaaaGreat.P
namespace Go.Proofs.YtmbmalkpmanaaaaGreat.P
set_option linter.unusedVariables false
set_option linter.unusedSimpArgs false
open Go.RowKit Go.Proofs.YtmbmalkpmanaaaaGreatW.iD Go.Proofs.YtmbmalkpmanaaaaGreatW.jw
variable {p c:Int} {core:List (List Sp)} {odd:List Gn}
theorem abo (a b:Int):mn a b=min a b:=by unfold mn;split <;> omega
theorem aez (a b:Int):mx a b=max a b:=by unfold mx;split <;> omega
theorem SL.len {lo hi:Int}:∀ {l:List Sp} {lo:Int},SL lo hi l→(l.length:Int)≤max 0 (hi - lo+1)
  | [],_,_=>by simp;omega
  | s :: r,lo,⟨h1,h2,h3,h4⟩=>by
    have:=SL.len (lo:=lo) h4;simp only [List.length_cons];omega
theorem SL.yP {l:List Sp} (h:SL (-1099511627776) 1099511627776 l):l.length≤4611686018427387903:=by have:=SL.len (lo:=0) h;omega
theorem wR:∀ (l:List Sp),l≠[]→∃ z,l.getLast? = some z∧z.f1=oh l
  | [],h=>absurd rfl h
  | [s],_=>⟨s,rfl,rfl⟩
  | s :: t :: r,_=>by
    obtain ⟨z,h1,h2⟩:=wR (t :: r) (by simp);exact ⟨z,by rw [List.getLast?_cons_cons];exact h1,h2⟩
theorem xV (a b:List Sp):nI a b=true↔(a≠[]→b≠[]→oh a<oq b):=by
  by_cases ha:a=[]
  · subst ha;simp [nI]
  · obtain ⟨z,h1,h2⟩:=wR a ha
    cases b with
    | nil=>unfold nI;rw [h1];simp
    | cons s r=>unfold nI;rw [h1];simp [oq,h2,ha]
theorem mQ (l:List Sp):aak l=if l=[] then (0,0,false) else (oq l,oh l,true):=by
  by_cases ha:l=[]
  · subst ha;rfl
  · obtain ⟨z,h1,h2⟩:=wR l ha
    rw [if_neg ha];cases l with
    | nil=>exact absurd rfl ha
    | cons s r=>unfold aak;rw [h1];simp [oq,h2]
theorem aam (h:SF p c core odd) (a:Int) (ha : -1099511627777≤a∧a≤1099511627776):∃ r,Ev (fun k=>iB.f k p c core odd a (-1)) r∧xS c core odd a r:=by
  have hlo:=h.hlo;obtain ⟨b,b1,b2⟩:=abn h;by_cases hb:b=true
  · have hbare:=b2.1 hb
    obtain ⟨r,r1,r2⟩:=wN h a;have key:∀ (n:Nat),n≤odd.length→(∀ j (hj:j<odd.length),n≤j→a<odd[j].f0∨odd[j].f1=[])→(∀ j (hj:j<odd.length),j<n→odd[j].f0≤a) →
        ∃ x,Ev (fun k=>iB.l0 k (-1) ((n:Int) - 1) p c core odd) x∧xS c core odd a x:=by
      intro n;induction n with
      | zero =>
        intro hn h1 h2;refine ⟨(0,false),Ev.step (f:=fun k=>iB.j3 k (-1) ((0:Nat) - 1:Int) false p c core odd) (fun k => ?_) (Ev.step (f:=fun _=>some (0,false)) (fun k => ?_) (Ev.now _)),(fun e=>by cases e),fun _=>⟨rfl,fun m hm _ => ?_⟩⟩
        · rw [iB.l0,if_neg (by omega)]
        · rw [iB.j3,if_neg (by simp)]
        · refine Classical.byContradiction fun hne => ?_
          obtain ⟨j,hj,e1,e2⟩:=wQ h hbare hne;rcases h1 j hj (by omega) with g | g
          · omega
          · exact e2 g
      | succ n ih =>
        intro hn h1 h2;have hlt:n<odd.length:=by omega
        have en:((n+1:Nat):Int) - 1=(n:Int):=by omega
        have hdec:decide ((n:Int)<(odd.length:Int))=true:=by simp;omega
        rw [en];by_cases hz:odd[n].f1=[]
        · obtain ⟨x,x1,x2⟩:=ih (by omega) (fun j hj hjn=>by
            rcases Nat.lt_or_ge n j with g | g
            · exact h1 j hj g
            · have:j=n:=by omega
              subst this;exact .inr hz) (fun j hj hjn=>h2 j hj (by omega))
          refine ⟨x,Ev.step (f:=fun k=>iB.j3 k (-1) (n:Int) true p c core odd) (fun k => ?_) (Ev.step (fun k => ?_) x1),x2⟩
          · rw [iB.l0,if_pos (by omega),hdec]
          · have hw:wrap64 ((n:Int) + -1)=(n:Int) - 1:=by rw [jl (by omega) (by omega)];omega
            rw [iB.j3,if_pos rfl,if_pos (by omega),if_pos (by omega),rdG odd n hlt,if_neg (by rw [hz];simp),hw]
        · refine ⟨(odd[n].f0,true),Ev.step (f:=fun k=>iB.j3 k (-1) (n:Int) true p c core odd) (fun k => ?_) (Ev.step (f:=fun _=>some (odd[n].f0,true)) (fun k => ?_) (Ev.now _)),fun _=>⟨h2 n hlt (by omega),h.hidx _ (List.getElem_mem hlt),by rw [xU h hlt];exact hz,fun m hm1 hm2 => ?_⟩,(fun e=>by cases e)⟩
          · rw [iB.l0,if_pos (by omega),hdec]
          · have:0<odd[n].f1.length:=List.length_pos_iff.2 hz
            rw [iB.j3,if_pos rfl,if_pos (by omega),if_pos (by omega),rdG odd n hlt,if_pos (by omega)]
          · refine Classical.byContradiction fun hne => ?_
            obtain ⟨j,hj,e1,e2⟩:=wQ h hbare hne;rcases Nat.lt_or_ge n j with g | g
            · rcases h1 j hj g with g2 | g2
              · omega
              · exact e2 g2
            · rcases Nat.lt_or_ge j n with g2 | g2
              · have:=yN h.hup hlt g2;simp only at hm2;omega
              · have:j=n:=by omega
                subst this;simp only at hm2;omega
    have e1:(r.1.toNat:Int)=r.1:=Int.toNat_of_nonneg r2.low;have hhi:=r2.high;have hend:∃ x,Ev (fun k=>iB.j0 k (-1) r.1 (!r.2) p c core odd) x∧xS c core odd a x:=by
      by_cases hr:r.2=true
      · obtain ⟨hj,he⟩:=r2.is hr
        obtain ⟨x,x1,x2⟩:=key (r.1.toNat+1) (by omega) (fun j hj2 hjn=>.inl (by have:=yN h.hup hj2 (show r.1.toNat<j by omega);omega)) (fun j hj2 hjn=>by
          rcases Nat.lt_or_ge j r.1.toNat with g | g
          · have:=yN h.hup hj g;omega
          · have:j=r.1.toNat:=by omega
            subst this;omega)
        have en:((r.1.toNat+1:Nat):Int) - 1=r.1:=by omega
        rw [en] at x1;refine ⟨x,Ev.step (f:=fun k=>iB.j1 k (-1) r.1 p c core odd) (fun k => ?_) (Ev.step (fun k=>by rw [iB.j1]) x1),x2⟩;rw [iB.j0,if_neg (by rw [hr];simp)]
      · have hr':r.2=false:=by simpa using hr
        have hno:=pK.1 (r2.no hr');obtain ⟨x,x1,x2⟩:=key r.1.toNat (by omega) (fun j hj2 hjn=>.inl (by have:=r2.above j hj2 (by omega);have:=hno _ (List.getElem_mem hj2);omega)) (fun j hj2 hjn=>by have:=r2.below j hj2 (by omega);omega);have en:((r.1.toNat:Nat):Int) - 1=r.1 - 1:=by omega
        rw [en] at x1;refine ⟨x,Ev.step (f:=fun k=>iB.j1 k (-1) (r.1 - 1) p c core odd) (fun k => ?_) (Ev.step (fun k=>by rw [iB.j1]) x1),x2⟩;rw [iB.j0,if_pos (by rw [hr'];rfl),jl (by have:=r2.low;omega) (by omega)]
    obtain ⟨x,x1,x2⟩:=hend;refine ⟨x,?_,x2⟩;unfold iB.f;refine Ev.bind b1 ?_;refine Ev.congr (fun k=>by rw [if_pos hb]) (Ev.bind r1 ?_);exact Ev.congr (fun k=>by rw [if_pos (by omega)]) x1
  · have key:∀ (d:Nat) (i:Int),(i+1099511627777).toNat=d→i≤a → -1099511627777≤i→(∀ m,m≤a→i<m→fs c core odd m=[])→∃ x,Ev (fun k=>iB.l1 k (-1) i p c core odd) x∧xS c core odd a x:=by
      intro d;induction d with
      | zero =>
        intro i hd h1 h2 h3;have hi:¬ inR i:=by unfold inR;omega
        refine ⟨(0,false),Ev.step (f:=fun _=>some (0,false)) (fun k => ?_) (Ev.now _),(fun e=>by cases e),fun _=>⟨rfl,fun m hm hr=>h3 m hm (by unfold inR at hr;omega)⟩⟩;rw [iB.l1,nP];simp [hi]
      | succ d ih =>
        intro i hd h1 h2 h3;have hi:inR i:=by unfold inR;omega
        by_cases hz:fs c core odd i=[]
        · obtain ⟨x,x1,x2⟩:=ih (i - 1) (by omega) (by omega) (by omega) (fun m hm1 hm2=>by
            rcases iLt i m with g | g
            · exact h3 m hm1 g
            · have:m=i:=by omega
              subst this;exact hz)
          refine ⟨x,?_,x2⟩;refine Ev.step (f:=fun k=>(kW.f k p c core odd i).bind fun t=>if t=true then some (i,true) else iB.l1 k (-1) (wrap64 (i + -1)) p c core odd) (fun k=>by rw [iB.l1,nP];simp [hi]) ?_;refine Ev.bind (wP h i hi) ?_;refine Ev.congr (fun k => ?_) x1;rw [if_neg (by simp [hz]),jl (by omega) (by omega)];rfl
        · refine ⟨(i,true),?_,fun _=>⟨h1,hi,hz,h3⟩,(fun e=>by cases e)⟩
          refine Ev.step (f:=fun k=>(kW.f k p c core odd i).bind fun t=>if t=true then some (i,true) else iB.l1 k (-1) (wrap64 (i + -1)) p c core odd) (fun k=>by rw [iB.l1,nP];simp [hi]) ?_;refine Ev.bind (wP h i hi) ?_;exact Ev.congr (fun k=>by rw [if_pos (by simp [hz])]) (Ev.now _)
    obtain ⟨x,x1,x2⟩:=key _ a rfl (Int.le_refl _) ha.1 (fun m h1 h2=>by omega);refine ⟨x,?_,x2⟩;unfold iB.f;exact Ev.bind b1 (Ev.congr (fun k=>by rw [if_neg hb]) x1)
theorem sN (h:SF p c core odd) (i:Int) (hi : -9223372036854775808≤i∧i≤9223372036854775807):∃ r,Ev (fun k=>kF.f k p c core odd i) r∧zF c core odd (max (i+1) (-1099511627776)) r:=by
  unfold kF.f;by_cases hm:i≥1099511627776
  · refine ⟨(0,false),Ev.congr (f:=fun _=>some (0,false)) (fun k=>by rw [if_pos hm]) (Ev.now _),(fun e=>by cases e),fun _=>⟨rfl,fun m h1 h2=>by unfold inR at h2;omega⟩⟩
  · have hw:wrap64 (i+1)=i+1:=jl (by omega) (by omega)
    obtain ⟨r,r1,r2⟩:=aal h (max (i+1) (-1099511627776)) (by omega);refine ⟨r,Ev.congr (fun k=>by rw [if_neg hm,hw,aez]) (Ev.bind (f:=fun _ a=>some (a.1,a.2)) r1 (Ev.now _)),r2⟩
theorem uY (h:SF p c core odd) (i:Int) (hi : -9223372036854775808≤i∧i≤9223372036854775807):∃ r,Ev (fun k=>kM.f k p c core odd i) r∧xS c core odd (min (i - 1) 1099511627776) r:=by
  unfold kM.f;by_cases hm:i ≤ -1099511627776
  · refine ⟨(0,false),Ev.congr (f:=fun _=>some (0,false)) (fun k=>by rw [if_pos hm]) (Ev.now _),(fun e=>by cases e),fun _=>⟨rfl,fun m h1 h2=>by unfold inR at h2;omega⟩⟩
  · have hw:wrap64 (i - 1)=i - 1:=jl (by omega) (by omega)
    obtain ⟨r,r1,r2⟩:=aam h (min (i - 1) 1099511627776) (by omega);refine ⟨r,Ev.congr (fun k=>by rw [if_neg hm,hw,abo]) (Ev.bind (f:=fun _ a=>some (a.1,a.2)) r1 (Ev.now _)),r2⟩
end Go.Proofs.YtmbmalkpmanaaaaGreat.P

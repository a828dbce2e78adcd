/- Lemmas for laws of chapter 7: what the functions that they reach compute. No condition of its own. -/
import Derived.Test.YtcomnjodjijcmaaGreatYC16
import Derived.Test.YtcomnjodjijcmaaGreatYC12
namespace Go.Proofs.YtcomnjodjijcmaaGreat.P
set_option linter.unusedVariables false
set_option linter.unusedSimpArgs false
open Go.RowKit Go.Proofs.YtcomnjodjijcmaaGreatW.dB Go.Proofs.YtcomnjodjijcmaaGreatW.eO
section
theorem agr (pre r:List Sp) (s:Sp):yx (pre++s :: r) (pre.length:Int)=s:=by simp [yx]
def slB (lo:Int):List Sp→Bool
  | []=>true
  | s :: r=>decide (lo≤s.f0)&&(decide (s.f0≤s.f1)&&(decide (s.f1≤1099511627776)&&slB (s.f1+2) r))
theorem nR {lo:Int} {l:List Sp}:slB lo l=true↔SL lo 1099511627776 l:=by
  induction l generalizing lo with
  | nil=>simp [slB,SL]
  | cons s r ih=>simp [slB,SL,ih]
end
section
end
section
def su (l:List Sp):Int × Int × Bool :=
  match l.head?,l.getLast? with
  | some s,some z=>(s.f0,z.f1,true)
  | _,_=>(0,0,false)
def jJ (a b:List Sp):Bool :=
  match a.getLast?,b.head? with
  | some z,some s=>decide (z.f1<s.f0)
  | _,_=>true
theorem SL.get {lo hi:Int} {l:List Sp} (h:SL lo hi l) (j:Nat) (hj:j<l.length):lo≤l[j].f0∧l[j].f0≤l[j].f1∧l[j].f1≤hi:=SL.ticks h (List.getElem_mem hj)
theorem aed (lo hi:Nat) (h:hi≤4611686018427387903) (hl:lo≤hi):wrap64 ((IntKind.u64.wrap (wrap64 ((lo:Int)+(hi:Int)))) / 2)=(((lo+hi) / 2:Nat):Int):=by
  rw [mJ (n:=(lo:Int)+hi) (by omega) (by omega)];have:IntKind.u64.wrap ((lo:Int)+hi)=(lo:Int)+hi:=by
    simp only [IntKind.wrap,IntKind.bits,IntKind.signed];simp;omega
  rw [this,mJ (by omega) (by omega)];omega
theorem SL.empty {lo hi:Int} {l:List Sp} (h:SL lo hi l):(∀ x,l8 l x=false)→l=[]:=by
  intro hx;cases l with
  | nil=>rfl
  | cons s r=>have:=hx s.f0;rw [jy] at this;have h2:=h.2.1;simp [h2] at this
end
section
theorem SL.front {lo hi:Int} {p r:List Sp} (h:SL lo hi (p++r)):SL lo hi p:=by
  induction p generalizing lo with
  | nil=>trivial
  | cons s p ih=>exact ⟨h.1,h.2.1,h.2.2.1,ih h.2.2.2⟩
end
section
def fK (n:Int) (s:Sp):Sp:=⟨s.f0+n,s.f1+n⟩
def okT (x:Int):Bool:=decide (-1099511627776≤x)&&decide (x≤1099511627776)
def okM (n:Int) (s:Sp):Bool:=okT (s.f0+n)&&okT (s.f1+n)
def mM (n:Int) (l:List Sp):List Sp × Int:=if l.all (okM n) then (l.map (fK n),0) else ([],20)
theorem uE {x:Int}:okT x=true ↔ -1099511627776≤x∧x≤1099511627776:=by simp [okT]
theorem rG {n:Int} {s:Sp}:okM n s=true↔(-1099511627776≤s.f0+n∧s.f0+n≤1099511627776)∧(-1099511627776≤s.f1+n∧s.f1+n≤1099511627776):=by simp [okM,uE]
theorem SL.shift {lo hi:Int} (n:Int):∀ {l:List Sp} {lo:Int},SL lo hi l→SL (lo+n) (hi+n) (l.map (fK n))
  | [],_,_=>trivial
  | s :: r,lo,h=>by
    obtain ⟨h1,h2,h3,h4⟩:=h;refine ⟨by simp only [fK];omega,by simp only [fK];omega,by simp only [fK];omega,?_⟩;have:=SL.shift (lo:=lo) n h4;have e:(fK n s).f1+2=s.f1+2+n:=by simp only [fK];omega
    rw [e];exact this
theorem SL.within {lo' hi' hi:Int}:∀ {l:List Sp} {lo:Int},SL lo hi l→(∀ s∈l,lo'≤s.f0∧s.f1≤hi')→SL lo' hi' l
  | [],_,_,_=>trivial
  | s :: r,lo,h,hb=>by
    obtain ⟨h1,h2,h3,h4⟩:=h;refine ⟨(hb s (by simp)).1,h2,(hb s (by simp)).2,?_⟩;refine SL.within h4 (fun t ht=>⟨?_,(hb t (by simp [ht])).2⟩)
    exact (SL.ticks h4 ht).1
theorem SL.moved {n:Int} {l:List Sp} (h:SL (-1099511627776) 1099511627776 l) (ho:l.all (okM n)=true):SL (-1099511627776) 1099511627776 (l.map (fK n)):=by
  refine SL.within (SL.shift (lo:=0) n h) (fun s hs => ?_)
  obtain ⟨t,ht,rfl⟩:=List.mem_map.1 hs;have:=rG.1 (List.all_eq_true.1 ho t ht);simp only [fK];omega
theorem aav (n:Int) (l:List Sp):(l.map (fK n)).map (fK (-n))=l:=by
  induction l with
  | nil=>rfl
  | cons s r ih =>
    rw [List.map_cons,List.map_cons,ih];congr 1;cases s;simp only [fK];congr 1 <;> omega
end
section
end
section
abbrev Gn:=S44
def lF:List Sp→Int
  | []=>0
  | s :: _=>s.f0
def lQ:List Sp→Int
  | []=>0
  | [s]=>s.f1
  | _ :: t :: r=>lQ (t :: r)
theorem abS (l:List Sp) (s:Sp):lQ (l++[s])=s.f1:=by
  induction l with
  | nil=>rfl
  | cons a r ih=>cases r with
    | nil=>rfl
    | cons b r=>exact ih
theorem SL.ends {lo hi:Int}:∀ {l:List Sp},SL lo hi l→l≠[]→lo≤lF l∧lF l≤lQ l∧lQ l≤hi
  | [],_,h=>absurd rfl h
  | [s],⟨a,b,c,_⟩,_=>⟨a,b,c⟩
  | s :: t :: r,⟨a,b,c,d⟩,_=>by
    obtain ⟨e1,e2,e3⟩:=SL.ends d (by simp);simp only [lF,lQ] at *;exact ⟨a,by omega,e3⟩
theorem SL.between {lo hi:Int} {l:List Sp} (h:SL lo hi l) {s:Sp} (hs:s∈l):lF l≤s.f0∧s.f1≤lQ l:=by
  induction l generalizing lo with
  | nil=>simp at hs
  | cons a r ih =>
    obtain ⟨h1,h2,h3,h4⟩:=h;cases r with
    | nil=>simp at hs;subst hs;exact ⟨Int.le_refl _,Int.le_refl _⟩
    | cons b r =>
      have e:=h4.ends (by simp);rcases List.mem_cons.1 hs with rfl | hs
      · simp only [lF,lQ] at *;omega
      · have:=ih h4 hs;simp only [lF,lQ] at *;omega
theorem SL.rH {lo hi:Int} {l:List Sp} (h:SL lo hi l) {x:Int} (hx:l8 l x=true):lF l≤x∧x≤lQ l:=by
  obtain ⟨s,hs,h1,h2⟩:=wK.1 hx;have:=h.between hs;omega
theorem pF (n:Int) (l:List Sp) (h:l≠[]):lF (l.map (fK n))=lF l+n:=by
  cases l with
  | nil=>exact absurd rfl h
  | cons s r=>rfl
theorem pG (n:Int):∀ (l:List Sp),l≠[]→lQ (l.map (fK n))=lQ l+n
  | [],h=>absurd rfl h
  | [s],_=>rfl
  | s :: t :: r,_=>pG n (t :: r) (by simp)
theorem SL.oI {n:Int} {l:List Sp} (h:SL (-1099511627776) 1099511627776 l) (hn:l≠[]):l.all (okM n)=true↔(-1099511627776≤lF l+n∧lQ l+n≤1099511627776):=by
  constructor
  · intro ha
    have hm:=h.moved ha;have:=hm.ends (by simpa using hn);rw [pF n l hn,pG n l hn] at this;exact ⟨this.1,this.2.2⟩
  · intro ⟨h1,h2⟩
    rw [List.all_eq_true];intro s hs;have:=h.between hs;have:=h.ticks hs;rw [rG];omega
def jA:List Gn→Int→Option (List Sp)
  | [],_=>none
  | g :: r,i=>if g.f0=i then some g.f1 else jA r i
theorem jT {odd:List Gn} {i:Int} {l:List Sp} (h:jA odd i=some l):∃ g∈odd,g.f0=i∧g.f1=l:=by
  induction odd with
  | nil=>cases h
  | cons g r ih =>
    simp only [jA] at h;split at h
    · cases h;exact ⟨g,by simp,‹_›,rfl⟩
    · obtain ⟨g',h1,h2⟩:=ih h;exact ⟨g',by simp [h1],h2⟩
theorem jF {odd:List Gn} {i:Int}:jA odd i=none↔∀ g∈odd,g.f0≠i:=by
  induction odd with
  | nil=>simp [jA]
  | cons g r ih =>
    simp only [jA,List.mem_cons,forall_eq_or_imp];by_cases h:g.f0=i
    · simp [h]
    · simp [h,ih]
theorem mO {odd:List Gn} (hu:odd.Pairwise (fun a b=>a.f0<b.f0)) {g:Gn} (hg:g∈odd):jA odd g.f0=some g.f1:=by
  induction odd with
  | nil=>simp at hg
  | cons a r ih =>
    obtain ⟨h1,h2⟩:=List.pairwise_cons.1 hu;simp only [jA];rcases List.mem_cons.1 hg with rfl | hg
    · rw [if_pos rfl]
    · have:=h1 g hg;rw [if_neg (by omega)];exact ih h2 hg
def gK (c:Int) (core:List (List Sp)) (i:Int):List Sp:=if c=0 then [] else core.getD (i % c).toNat []
def fs (c:Int) (core:List (List Sp)) (odd:List Gn) (i:Int):List Sp:=match jA odd i with | some l=>l | none=>gK c core i
def fb (p c:Int) (odd:List Gn) (i:Int):Int:=match jA odd i with | some _=>0 | none=>i / c*p
def gLo (p c:Int) (core:List (List Sp)) (odd:List Gn) (i:Int):Int:=lF (fs c core odd i)+fb p c odd i
def gHi (p c:Int) (core:List (List Sp)) (odd:List Gn) (i:Int):Int:=lQ (fs c core odd i)+fb p c odd i
def inR (i:Int):Prop := -1099511627776≤i∧i≤1099511627776
instance (i:Int):Decidable (inR i):=by unfold inR;exact inferInstance
structure SF (p c:Int) (core:List (List Sp)) (odd:List Gn):Prop where
  hc:c=core.length
  hp0:0≤p
  hp1:p≤1099511627776
  hz:c=0↔p=0
  hcore:∀ l∈core,SL (-1099511627776) 1099511627776 l
  hodd:∀ g∈odd,SL (-1099511627776) 1099511627776 g.f1
  hidx:∀ g∈odd,inR g.f0
  hup:odd.Pairwise (fun a b=>a.f0<b.f0)
  hl:core.length≤6000
  hlo:odd.length≤6000
structure TF (p:Int) (core:List (List Sp)):Prop where
  ta:core.Pairwise (fun a b=>a≠[]→b≠[]→lQ a<lF b)
  tb:∀ a∈core,∀ b∈core,a≠[]→b≠[]→lQ a<lF b+p
variable {p c:Int} {core:List (List Sp)} {odd:List Gn}
theorem SF.abT (h:SF p c core odd):SF p c core []:=⟨h.hc,h.hp0,h.hp1,h.hz,h.hcore,by simp,by simp,List.Pairwise.nil,h.hl,by simp⟩
theorem SF.jU (h:SF p c core odd) (i:Int) (hc:c≠0):gK c core i∈core:=by
  have h0:=h.hc;have h1:0≤i % c:=Int.emod_nonneg _ hc;have h2:i % c<c:=Int.emod_lt_of_pos _ (by omega);have h3:(i % c).toNat<core.length:=by omega
  unfold gK;rw [if_neg hc,List.getD_eq_getElem?_getD,List.getElem?_eq_getElem h3];exact List.getElem_mem h3
theorem SF.abU (h:SF p c core odd) (i:Int):SL (-1099511627776) 1099511627776 (gK c core i):=by
  by_cases hc:c=0
  · unfold gK;rw [if_pos hc];trivial
  · exact h.hcore _ (h.jU i hc)
theorem SF.uF (h:SF p c core odd) (i:Int):SL (-1099511627776) 1099511627776 (fs c core odd i):=by
  unfold fs;cases ho:jA odd i with
  | none=>exact h.abU i
  | some l=>obtain ⟨g,hg,_,rfl⟩:=jT ho;exact h.hodd g hg
theorem SF.adz (h:SF p c core odd) {i:Int} (hn:fs c core odd i≠[]):gLo p c core odd i≤gHi p c core odd i:=by
  have:=(h.uF i).ends hn;unfold gLo gHi;omega
theorem zn (h:SF p c core odd) (t:TF p core) {i k:Int} (hik:i<k) (hi:gK c core i≠[]) (hk:gK c core k≠[]):lQ (gK c core i)+i / c*p<lF (gK c core k)+k / c*p:=by
  have hc:c≠0:=by intro e;apply hi;unfold gK;rw [if_pos e]
  have h0:=h.hc;have hcp:0<c:=by omega
  have mi:=h.jU i hc;have mk:=h.jU k hc;have i1:0≤i % c:=Int.emod_nonneg _ hc;have i2:i % c<c:=Int.emod_lt_of_pos _ hcp;have k1:0≤k % c:=Int.emod_nonneg _ hc;have k2:k % c<c:=Int.emod_lt_of_pos _ hcp;have ei:=Int.mul_ediv_add_emod i c;have ek:=Int.mul_ediv_add_emod k c;rcases Int.lt_trichotomy (i / c) (k / c) with hq | hq | hq
  · have hb:=t.tb _ mi _ mk hi hk
    have:i / c*p+p≤k / c*p:=by
      have h1:(i / c+1)*p≤(k / c)*p:=Int.mul_le_mul_of_nonneg_right (by omega) h.hp0;rw [Int.add_mul,Int.one_mul] at h1;exact h1
    omega
  · rw [hq] at ei ⊢
    have hr:i % c<k % c:=by omega
    have hlt:(i % c).toNat<(k % c).toNat:=by omega
    have hkl:(k % c).toNat<core.length:=by omega
    have hil:(i % c).toNat<core.length:=by omega
    have e1:gK c core i=core[(i % c).toNat]:=by unfold gK;rw [if_neg hc,List.getD_eq_getElem?_getD,List.getElem?_eq_getElem hil];rfl
    have e2:gK c core k=core[(k % c).toNat]:=by unfold gK;rw [if_neg hc,List.getD_eq_getElem?_getD,List.getElem?_eq_getElem hkl];rfl
    have:=List.pairwise_iff_getElem.1 t.ta _ _ hil hkl hlt (by rw [← e1];exact hi) (by rw [← e2];exact hk);rw [← e1,← e2] at this;omega
  · exfalso
    have h1:c*(k / c)+c≤c*(i / c):=by
      have:c*(k / c+1)≤c*(i / c):=Int.mul_le_mul_of_nonneg_left (by omega) (by omega);rw [Int.mul_add,Int.mul_one] at this;exact this
    omega
def gap (c:Int) (core:List (List Sp)) (odd:List Gn) (i k:Int):Prop:=∀ m,i<m→m<k→fs c core odd m=[]
structure BF (p c:Int) (core:List (List Sp)) (odd:List Gn):Prop where
  up:∀ g∈odd,g.f1≠[]→∀ k,g.f0<k→inR k→fs c core odd k≠[]→gap c core odd g.f0 k→gHi p c core odd g.f0<gLo p c core odd k
  dn:∀ g∈odd,g.f1≠[]→∀ k,k<g.f0→inR k→fs c core odd k≠[]→gap c core odd k g.f0→gHi p c core odd k<gLo p c core odd g.f0
theorem adA (h:SF p c core odd) (t:TF p core) (b:BF p c core odd):∀ (n:Nat) (i k:Int),(k - i).toNat≤n→i<k→inR i→inR k→fs c core odd i≠[]→fs c core odd k≠[]→gHi p c core odd i<gLo p c core odd k:=by
  intro n;induction n with
  | zero=>intro i k hn hik;omega
  | succ n ih =>
    intro i k hn hik ri rk hi hk;by_cases hg:gap c core odd i k
    · cases hoi:jA odd i with
      | some l =>
        obtain ⟨g,hg1,rfl,rfl⟩:=jT hoi;exact b.up g hg1 (by unfold fs at hi;rw [hoi] at hi;exact hi) k hik rk hk hg
      | none =>
        cases hok:jA odd k with
        | some l =>
          obtain ⟨g,hg1,rfl,rfl⟩:=jT hok;exact b.dn g hg1 (by unfold fs at hk;rw [hok] at hk;exact hk) i hik ri hi hg
        | none =>
          have:=zn h t hik (by unfold fs at hi;rw [hoi] at hi;exact hi) (by unfold fs at hk;rw [hok] at hk;exact hk);unfold gHi gLo fs fb;rw [hoi,hok];exact this
    · have:∃ m,i<m∧m<k∧fs c core odd m≠[]:=Classical.byContradiction fun hx=>hg (fun m h1 h2=>Classical.byContradiction fun h3=>hx ⟨m,h1,h2,h3⟩)
      obtain ⟨m,h1,h2,h3⟩:=this;unfold inR at ri rk;have a1:=ih i m (by omega) h1 ri ⟨by omega,by omega⟩ hi h3;have a2:=ih m k (by omega) h2 ⟨by omega,by omega⟩ rk h3 hk;have a3:=h.adz h3;omega
structure FOK (p c:Int) (core:List (List Sp)) (odd:List Gn):Prop where
  s:SF p c core odd
  t:TF p core
  ord:∀ i k,i<k→inR i→inR k→fs c core odd i≠[]→fs c core odd k≠[]→gHi p c core odd i<gLo p c core odd k
theorem FOK.of (h:SF p c core odd) (t:TF p core) (b:BF p c core odd):FOK p c core odd:=⟨h,t,fun i k hik=>adA h t b _ i k (Nat.le_refl _) hik⟩
theorem adB (h:SF p c core odd) (t:TF p core) {i k:Int} (hik:i<k) (hi:fs c core [] i≠[]) (hk:fs c core [] k≠[]):gHi p c core [] i<gLo p c core [] k:=zn h t hik hi hk
end
section
variable {p c:Int} {core:List (List Sp)} {odd:List Gn}
theorem rdG (l:List Gn) (j:Nat) (hj:j<l.length):yA l (j:Int)=l[j]:=by simp [yA,hj]
structure ags (odd:List Gn) (i:Int) (r:Int × Bool):Prop where
  low:0≤r.1
  high:r.1≤odd.length
  below:∀ j (hj:j<odd.length),(j:Int)<r.1→odd[j].f0<i
  above:∀ j (hj:j<odd.length),r.1≤(j:Int)→i≤odd[j].f0
  is:r.2=true→∃ (hj:r.1.toNat<odd.length),odd[r.1.toNat].f0=i
  no:r.2=false→jA odd i=none
theorem xU {l:List Gn} (h:l.Pairwise (fun a b=>a.f0<b.f0)) {i j:Nat} (hj:j<l.length) (hij:i<j):(l[i]'(by omega)).f0<l[j].f0:=List.pairwise_iff_getElem.1 h i j (by omega) hj hij
end
section
theorem wrap_u64 (n:Int):IntKind.u64.wrap n=n % 18446744073709551616:=by simp [IntKind.wrap,IntKind.bits,IntKind.signed]
theorem wraps_u64 (n:Int) (h₀:0≤n) (h₁:n<2 ^ 64):IntKind.u64.wrap n=n:=by rw [wrap_u64];omega
theorem afh (x:Int) (h0:0≤x) (h1:x<18446744073709551616):Go.bits .and .u64 x 4294967295=x % 4294967296:=bits_mask .u64 64 (by decide) wraps_u64 32 (by decide) x h0 h1
theorem zo (u v:Int) (hu:0≤u) (hu':u≤4294967295) (hv:0≤v) (hv':v≤4294967295):0≤u*v∧u*v≤18446744065119617025:=by
  refine ⟨Int.mul_nonneg hu hv,?_⟩;have:=Int.mul_le_mul hu' hv' hv (show (0:Int)≤4294967295 by omega);omega
def zq (a b:Int):Int × Int:=if -9223372036854775808≤a*b∧a*b≤9223372036854775807 then (a*b,0) else (0,10)
end
section
variable {p c:Int} {core:List (List Sp)} {odd:List Gn}
theorem rdL (l:List (List Sp)) (j:Nat) (hj:j<l.length):acM l (j:Int)=l[j]:=by simp [acM,hj]
theorem aiL (l:List Gn) (x:Int) (hj:x.toNat<l.length):yA l x=l[x.toNat]:=by simp [yA,hj]
theorem aiM (l:List (List Sp)) (x:Int) (hj:x.toNat<l.length):acM l x=l[x.toNat]:=by simp [acM,hj]
def pI (p c:Int) (core:List (List Sp)) (odd:List Gn) (i:Int):List Sp × Int × Int :=
  match jA odd i with | some l=>(l,0,0) | none=>if c=0 then ([],0,0) else (gK c core i,zq (i / c) p)
theorem wL (i:Int):(pI p c core odd i).1=fs c core odd i:=by
  unfold pI fs;cases jA odd i with
  | some l=>rfl
  | none =>
      by_cases hc:c=0
      · simp [hc,gK]
      · simp [hc]
def jW (p c:Int) (core:List (List Sp)) (odd:List Gn) (i:Int):List Sp × Int :=
  if inR i then (if fs c core odd i=[] then ([],0) else mM (fb p c odd i) (fs c core odd i)) else ([],20)
def zu (c:Int) (core:List (List Sp)) (odd:List Gn) (a:Int) (r:Int × Bool):Prop :=
  (r.2=true→a≤r.1∧inR r.1∧fs c core odd r.1≠[]∧∀ m,a≤m→m<r.1→fs c core odd m=[])∧(r.2=false→r.1=0∧∀ m,a≤m→inR m→fs c core odd m=[])
def zw (c:Int) (core:List (List Sp)) (odd:List Gn) (a:Int) (r:Int × Bool):Prop :=
  (r.2=true→r.1≤a∧inR r.1∧fs c core odd r.1≠[]∧∀ m,m≤a→r.1<m→fs c core odd m=[])∧(r.2=false→r.1=0∧∀ m,m≤a→inR m→fs c core odd m=[])
theorem uG (h:SF p c core odd) (hb:∀ l∈core,l=[]) {m:Int} (hm:fs c core odd m≠[]):∃ j,∃ hj:j<odd.length,odd[j].f0=m∧odd[j].f1≠[]:=by
  unfold fs at hm;cases ho:jA odd m with
  | some l =>
    obtain ⟨g,hg,e1,e2⟩:=jT ho;obtain ⟨j,hj,rfl⟩:=List.getElem_of_mem hg;exact ⟨j,hj,e1,by rw [ho] at hm;rw [e2];exact hm⟩
  | none =>
    rw [ho] at hm;by_cases hc:c=0
    · exact absurd (by simp [gK,hc]) hm
    · exact absurd (hb _ (h.jU m hc)) hm
theorem zx (h:SF p c core odd) {j:Nat} (hj:j<odd.length):fs c core odd odd[j].f0=odd[j].f1:=by
  unfold fs;rw [mO h.hup (List.getElem_mem hj)]
end
section
variable {p c:Int} {core:List (List Sp)} {odd:List Gn}
theorem agt (a b:Int):mn a b=min a b:=by unfold mn;split <;> omega
theorem ahX (a b:Int):mx a b=max a b:=by unfold mx;split <;> omega
theorem SL.len {lo hi:Int}:∀ {l:List Sp} {lo:Int},SL lo hi l→(l.length:Int)≤max 0 (hi - lo+1)
  | [],_,_=>by simp;omega
  | s :: r,lo,⟨h1,h2,h3,h4⟩=>by
    have:=SL.len (lo:=lo) h4;simp only [List.length_cons];omega
theorem SL.uH {l:List Sp} (h:SL (-1099511627776) 1099511627776 l):l.length≤4611686018427387903:=by have:=SL.len (lo:=0) h;omega
theorem uI:∀ (l:List Sp),l≠[]→∃ z,l.getLast? = some z∧z.f1=lQ l
  | [],h=>absurd rfl h
  | [s],_=>⟨s,rfl,rfl⟩
  | s :: t :: r,_=>by
    obtain ⟨z,h1,h2⟩:=uI (t :: r) (by simp);exact ⟨z,by rw [List.getLast?_cons_cons];exact h1,h2⟩
theorem rJ (a b:List Sp):jJ a b=true↔(a≠[]→b≠[]→lQ a<lF b):=by
  by_cases ha:a=[]
  · subst ha;simp [jJ]
  · obtain ⟨z,h1,h2⟩:=uI a ha
    cases b with
    | nil=>unfold jJ;rw [h1];simp
    | cons s r=>unfold jJ;rw [h1];simp [lF,h2,ha]
theorem adC (l:List Sp):su l=if l=[] then (0,0,false) else (lF l,lQ l,true):=by
  by_cases ha:l=[]
  · subst ha;rfl
  · obtain ⟨z,h1,h2⟩:=uI l ha
    rw [if_neg ha];cases l with
    | nil=>exact absurd rfl ha
    | cons s r=>unfold su;rw [h1];simp [lF,h2]
end
section
variable {p c:Int} {core:List (List Sp)} {odd:List Gn}
structure MF (core:List (List Sp)) (odd:List Gn):Prop where
  mc:∀ l∈core,l.length≤9223372036854775807
  mo:∀ g∈odd,g.f1.length≤9223372036854775807
end
section
variable {p c:Int} {core:List (List Sp)} {odd:List Gn}
def neL (l:List (List Sp)):List (List Sp):=l.filter (fun x=>decide (x≠[]))
theorem xV {l:List (List Sp)} {x:List Sp}:x∈neL l↔x∈l∧x≠[]:=by simp [neL]
theorem adD (l:List (List Sp)) (x:List Sp):neL (l++[x])=if x=[] then neL l else neL l++[x]:=by
  unfold neL;rw [List.filter_append];by_cases h:x=[]
  · simp [h]
  · simp [h]
theorem agu (x:List Sp) (hx:x≠[]) (hl:x.length≤4611686018427387903):wrap64 ((x.length:Int) - 1)=(x.length:Int) - 1∧0≤(x.length:Int) - 1∧(yx x ((x.length:Int) - 1)).f1=lQ x:=by
  rcases List.eq_nil_or_concat x with rfl | ⟨o,z,rfl⟩
  · exact absurd rfl hx
  · rw [List.concat_eq_append] at *
    have e:((o++[z]).length:Int) - 1=(o.length:Int):=by simp
    refine ⟨mJ (by simp only [List.length_append,List.length_singleton];omega) (by omega),by rw [e];omega,?_⟩;rw [e,abS];have:=agr o [] z;rw [this]
theorem agv (x:List Sp) (hx:x≠[]):0<x.length∧(yx x 0).f0=lF x:=by
  cases x with
  | nil=>exact absurd rfl hx
  | cons s r=>exact ⟨by simp,rfl⟩
end
section
variable {p c:Int} {core:List (List Sp)} {odd:List Gn}
structure Ex (p c:Int) (core:List (List Sp)) (odd:List Gn) (i:Int):Prop where
  r:inR i
  n:fs c core odd i≠[]
  lo : -1099511627776≤gLo p c core odd i
  hi:gHi p c core odd i≤1099511627776
def gT (p c:Int) (core:List (List Sp)) (odd:List Gn) (i:Int):List Sp:=(fs c core odd i).map (fK (fb p c odd i))
theorem SF.pJ (h:SF p c core odd) {i:Int} (e:Ex p c core odd i):jW p c core odd i=(gT p c core odd i,0):=by
  unfold jW;rw [if_pos e.r,if_neg e.n];unfold mM;have e1:=e.lo;have e2:=e.hi;rw [if_pos (((h.uF i).oI e.n).2 ⟨e1,e2⟩)];rfl
theorem SF.abV (h:SF p c core odd) {i:Int} (hn:fs c core odd i≠[]) (e:¬ Ex p c core odd i):jW p c core odd i=([],20):=by
  unfold jW;by_cases hr:inR i
  · rw [if_pos hr,if_neg hn]
    unfold mM;rw [if_neg];intro ha;have:=((h.uF i).oI hn).1 ha;exact e ⟨hr,hn,this.1,this.2⟩
  · rw [if_neg hr]
theorem SF.uJ (h:SF p c core odd) {i:Int} (hr:inR i) (hn:fs c core odd i≠[]) (e:(jW p c core odd i).2=0):Ex p c core odd i:=by
  refine Classical.byContradiction fun hx => ?_;rw [h.abV hn hx] at e;cases e
theorem lC {i:Int} (hn:fs c core odd i≠[]):gT p c core odd i≠[]∧lF (gT p c core odd i)=gLo p c core odd i∧lQ (gT p c core odd i)=gHi p c core odd i :=
  ⟨by unfold gT;simpa using hn,pF _ _ hn,pG _ _ hn⟩
theorem SF.ahY (h:SF p c core odd) {i:Int} (e:Ex p c core odd i):SL (-1099511627776) 1099511627776 (gT p c core odd i):=(h.uF i).moved (((h.uF i).oI e.n).2 ⟨e.lo,e.hi⟩)
end
section
variable {p c:Int} {core:List (List Sp)} {odd:List Gn}
theorem ahZ (q c r:Int) (h0:0≤r) (h1:r<c):(q*c+r) / c=q∧(q*c+r) % c=r:=by
  have hc:c≠0:=by omega
  constructor
  · rw [Int.add_comm,Int.add_mul_ediv_right _ _ hc,Int.ediv_eq_zero_of_lt h0 h1];omega
  · rw [Int.add_comm,Int.add_mul_emod_self_right,Int.emod_eq_of_lt h0 h1]
theorem abW (h:SF p c core odd) (q:Int) (j:Nat) (hj:j<core.length):gK c core (q*c+j)=core[j]∧(q*c+j) / c=q:=by
  have h0:=h.hc;obtain ⟨e1,e2⟩:=ahZ q c j (by omega) (by omega);refine ⟨?_,e1⟩;unfold gK;rw [if_neg (by omega),e2,List.getD_eq_getElem?_getD,Int.toNat_natCast,List.getElem?_eq_getElem hj];rfl
theorem uK (h:SF p c core odd) {m:Int} (hm:gK c core m≠[]):0<c∧0<p∧∃ j:Nat,∃ hj:j<core.length,m % c=(j:Int)∧gK c core m=core[j]:=by
  have hc:c≠0:=by intro e;apply hm;unfold gK;rw [if_pos e]
  have h0:=h.hc;have h1:0≤m % c:=Int.emod_nonneg _ hc;have h2:m % c<c:=Int.emod_lt_of_pos _ (by omega);have h3:(m % c).toNat<core.length:=by omega
  have hp:p≠0:=fun e=>hc (h.hz.2 e);have hp0:=h.hp0;refine ⟨by omega,by omega,(m % c).toNat,h3,by omega,?_⟩;unfold gK;rw [if_neg hc,List.getD_eq_getElem?_getD,List.getElem?_eq_getElem h3];rfl
structure PlU (p c:Int) (core:List (List Sp)) (T:Int) (r:Int × Bool):Prop where
  y:r.2=true→gK c core r.1≠[]∧T≤gHi p c core [] r.1∧∀ m,gK c core m≠[]→T≤gHi p c core [] m→r.1≤m
  n:r.2=false→∀ m,gK c core m=[]
  lo : -4611686018427387904≤r.1
  hi:r.1≤4611686018427387904
end
section
variable {p c:Int} {core:List (List Sp)} {odd:List Gn}
structure PnU (p c:Int) (core:List (List Sp)) (odd:List Gn) (T:Int) (r:Int × Bool):Prop where
  y:r.2=true→Ex p c core [] r.1∧jA odd r.1=none∧T≤gHi p c core [] r.1∧∀ m,Ex p c core [] m→jA odd m=none→T≤gHi p c core [] m→r.1≤m
  n:r.2=false→r.1=0∧∀ m,Ex p c core [] m→jA odd m=none→¬ T≤gHi p c core [] m
structure FrU (p c:Int) (core:List (List Sp)) (odd:List Gn) (T:Int) (r:Int × Bool):Prop where
  y:r.2=true→Ex p c core odd r.1∧T≤gHi p c core odd r.1∧∀ m,Ex p c core odd m→T≤gHi p c core odd m→r.1≤m
  n:r.2=false→r.1=0∧∀ m,Ex p c core odd m→¬ T≤gHi p c core odd m
def cl (t:Int):Int:=mx (mn t 1099511627777) (-1099511627777)
end
section
variable {p c:Int} {core:List (List Sp)} {odd:List Gn}
structure PlD (p c:Int) (core:List (List Sp)) (T:Int) (r:Int × Bool):Prop where
  y:r.2=true→gK c core r.1≠[]∧gLo p c core [] r.1≤T∧∀ m,gK c core m≠[]→gLo p c core [] m≤T→m≤r.1
  n:r.2=false→∀ m,gK c core m=[]
  lo : -4611686018427387904≤r.1
  hi:r.1≤4611686018427387904
structure PnD (p c:Int) (core:List (List Sp)) (odd:List Gn) (T:Int) (r:Int × Bool):Prop where
  y:r.2=true→Ex p c core [] r.1∧jA odd r.1=none∧gLo p c core [] r.1≤T∧∀ m,Ex p c core [] m→jA odd m=none→gLo p c core [] m≤T→m≤r.1
  n:r.2=false→r.1=0∧∀ m,Ex p c core [] m→jA odd m=none→¬ gLo p c core [] m≤T
structure TlD (p c:Int) (core:List (List Sp)) (odd:List Gn) (T:Int) (r:Int × Bool):Prop where
  y:r.2=true→Ex p c core odd r.1∧gLo p c core odd r.1≤T∧∀ m,Ex p c core odd m→gLo p c core odd m≤T→m≤r.1
  n:r.2=false→r.1=0∧∀ m,Ex p c core odd m→¬ gLo p c core odd m≤T
end
section
variable {p c:Int} {core:List (List Sp)} {odd:List Gn}
theorem ady.mf (f:ady p c core odd):MF core odd:=⟨fun l hl=>(f.ahW l hl).2,fun g hg=>(f.aiW g hg).2.2⟩
structure AtS (p c:Int) (core:List (List Sp)) (odd:List Gn) (t:Int) (r:Int × Bool):Prop where
  y:r.2=true→Ex p c core odd r.1∧l8 (gT p c core odd r.1) t=true
  n:r.2=false→r.1=0∧∀ m,Ex p c core odd m→l8 (gT p c core odd m) t=false
end
section
variable {p c:Int} {core:List (List Sp)} {odd:List Gn}
structure BtS (p c:Int) (core:List (List Sp)) (odd:List Gn) (h0 h1:Int) (xs:List (Int × List Sp)):Prop where
  up:xs.Pairwise (fun x y=>x.1<y.1)
  mem:∀ x∈xs,Ex p c core odd x.1∧x.2=gT p c core odd x.1∧h0≤gHi p c core odd x.1∧gLo p c core odd x.1≤h1
  all:∀ j,Ex p c core odd j→h0≤gHi p c core odd j→gLo p c core odd j≤h1→(j,gT p c core odd j)∈xs
end
section
variable {p c:Int} {core:List (List Sp)} {odd:List Gn}
structure Few (p c:Int) (core:List (List Sp)) (odd:List Gn):Prop where
  ok:FOK p c core odd
  lc:core.length≤12
  lo:odd.length≤8
  hc:∀ l∈core,l.length≤60
  ho:∀ g∈odd,g.f1.length≤60
theorem Few.fs (w:Few p c core odd) (i:Int):(fs c core odd i).length≤60:=by
  unfold P.fs;cases ho:jA odd i with
  | some l =>
    obtain ⟨g,hg,_,rfl⟩:=jT ho;exact w.ho g hg
  | none =>
    show (gK c core i).length≤60;by_cases hc:c=0
    · unfold gK;rw [if_pos hc];simp
    · exact w.hc _ (w.ok.s.jU i hc)
end
section
variable {p c:Int} {core:List (List Sp)} {odd:List Gn}
structure aiZ (p:Int) (core:List (List Sp)) (odd:List Gn):Prop where
  hc:∀ l∈core,l≠[] → -100≤lF l∧lQ l≤100
  ho:∀ g∈odd,-100≤g.f0∧g.f0≤100
  hp:p≤200
theorem Few.c12 (w:Few p c core odd) (hc:c≠0):1≤c∧c≤12∧1≤p:=by
  have h1:=w.ok.s.hc;have h2:=w.lc;have h3:=w.ok.s.hz;have h4:=w.ok.s.hp0;have h5:p≠0:=fun q=>hc (h3.2 q);omega
end
end Go.Proofs.YtcomnjodjijcmaaGreat.P
namespace Go.Proofs.YtcomnjodjijcmaaGreat.Q
set_option linter.unusedVariables false
set_option linter.unusedSimpArgs false
open Go.RowKit Go.Proofs.YtcomnjodjijcmaaGreatW.dB Go.Proofs.YtcomnjodjijcmaaGreatW.eO M R P
section
theorem Ev.yes {α:Type} {c:Prop} [Decidable c] {g f:Nat→Option α} {r:α} (h:c) (k:Ev g r):Ev (fun n=>if c then g n else f n) r:=Ev.congr (fun n=>if_pos h) k
theorem Ev.no {α:Type} {c:Prop} [Decidable c] {g f:Nat→Option α} {r:α} (h:¬ c) (k:Ev f r):Ev (fun n=>if c then g n else f n) r:=Ev.congr (fun n=>if_neg h) k
theorem Ev.val {α:Type} {g:Option α} {r:α} (h:g=some r):Ev (fun _=>g) r:=⟨0,fun _ _=>h⟩
theorem rdS (pre r:List Sp) (s:Sp):gS (pre++s :: r) (pre.length:Int)=s:=by simp [gS]
theorem acH (l:List Sp) (j:Nat) (hj:j<l.length):gS l (j:Int)=l[j]:=by simp [gS,hj]
theorem rdG (l:List Gn) (j:Nat) (hj:j<l.length):gG l (j:Int)=l[j]:=by simp [gG,hj]
theorem rdL (l:List (List Sp)) (j:Nat) (hj:j<l.length):gL l (j:Int)=l[j]:=by simp [gL,hj]
theorem aiL (l:List Gn) (x:Int) (hj:x.toNat<l.length):gG l x=l[x.toNat]:=by simp [gG,hj]
theorem aiM (l:List (List Sp)) (x:Int) (hj:x.toNat<l.length):gL l x=l[x.toNat]:=by simp [gL,hj]
theorem len1 {α:Type} (pre:List α) (s:α):((pre.length:Int)+1)=((pre++[s]).length:Int):=by simp
theorem aee (k:Nat) (a:Int):iD.f k a=some (okT a):=by
  unfold iD.f okT;by_cases h : -1099511627776≤a
  · simp [h]
  · simp [h]
theorem j5 (k:Nat) (i:Int):gJ.f k i=some (decide (inR i)):=by
  unfold gJ.f inR;by_cases h : -1099511627776≤i
  · simp [h]
  · simp [h]
theorem abX {lo:Int} {s:Sp} {r:List Sp} (h0:lo≤s.f0) (h1:s.f0≤s.f1) (h2:s.f1≤1099511627776):slB lo (s :: r)=slB (s.f1+2) r:=by simp [slB,h0,h1,h2]
theorem aef {lo:Int} {s:Sp} {r:List Sp} (h:¬ (lo≤s.f0∧s.f0≤s.f1∧s.f1≤1099511627776)):slB lo (s :: r)=false:=by
  rw [Bool.eq_false_iff];intro e;rw [nR] at e;exact h ⟨e.1,e.2.1,e.2.2.1⟩
end
variable [Inhabited WT]
theorem nx {n:Nat} {i:Int} (h:i<n) (h0:0≤i) (hn:n≤9223372036854775807):wq (i+1)=i+1:=by rw [tN];exact mJ (by omega) (by omega)
theorem jf {n:Int} (h0 : -9223372036854775808≤n) (h1:n≤9223372036854775807):wq n=n:=by rw [tN];exact mJ h0 h1
theorem zy (l:List Sp) (hl:l.length≤9223372036854775807):Ev (fun k=>eB.f k l) (slB (-1099511627776) l):=by
  have key:∀ (rest pre:List Sp) (lo:Int),l=pre++rest→(pre=[]∧lo = -1099511627776∨∃ p q,pre=p++[q]∧lo=q.f1+2 ∧ -1099511627776≤q.f1∧q.f1≤1099511627776) →
      Ev (fun k=>eB.l0 (some false) (some true) l l (l.length:Int) k (pre.length:Int)) (slB lo rest):=by
    intro rest;induction rest with
    | nil =>
      intro pre lo hp hlo;refine Ev.step (f:=fun _=>some true) (fun k => ?_) (Ev.now _);have c1:¬ (pre.length:Int)<(l.length:Int):=by rw [hp];simp
      simp [eB.l0,eB.l0T,c1]
    | cons s r ih =>
      intro pre lo hp hlo;have hlen:pre.length+1≤l.length:=by rw [hp];simp
      have hrd:gS l (pre.length:Int)=s:=by rw [hp];exact rdS _ _ _
      have hlow : -1099511627776≤lo:=by rcases hlo with ⟨_,rfl⟩ | ⟨p,q,_,rfl,h,_⟩ <;> omega
      have c1:(pre.length:Int)<(l.length:Int):=by omega
      have c2:(0:Int)≤(pre.length:Int):=by omega
      have hw:=nx c1 c2 hl;refine Ev.step (fun k=>rfl) ?_;simp only [eB.l0,eB.l0T,decide_eq_true_eq,c1,c2,if_true,hrd,aee,Option.bind_some,hw];by_cases t0:okT s.f0=true
      · by_cases t1:okT s.f1=true
        · simp only [t0,t1,Bool.not_true,Bool.false_eq_true,if_false]
          rw [uE] at t0 t1;by_cases t2:s.f0>s.f1
          · have:slB lo (s :: r)=false:=aef (by omega)
            rw [this];exact Ev.yes t2 (Ev.now _)
          · refine Ev.no t2 ?_
            rcases hlo with ⟨rfl,rfl⟩ | ⟨p,q,rfl,rfl,hq1,hq2⟩
            · refine Ev.no (by simp) ?_
              have hs:slB (-1099511627776) (s :: r)=slB (s.f1+2) r:=abX (by omega) (by omega) (by omega);rw [hs];exact ih [s] (s.f1+2) hp (.inr ⟨[],s,rfl,rfl,t1.1,t1.2⟩)
            · have hwp:wq (((p++[q]).length:Int) - 1)=(p.length:Int):=by rw [jf (by omega) (by omega)];simp
              have hrq:gS l (p.length:Int)=q:=by rw [hp];simp [gS]
              have hw2:wq (q.f1+2)=q.f1+2:=jf (by omega) (by omega);have c3:(p.length:Int)<(l.length:Int):=by simp at hlen;omega
              simp only [hwp,hrq,hw2,c3,if_true];refine Ev.yes (by simp) (Ev.yes (by omega) ?_);by_cases t3:s.f0<q.f1+2
              · have aa:slB (q.f1+2) (s :: r)=false:=aef (by omega)
                rw [aa];exact Ev.yes t3 (Ev.now _)
              · have hs:slB (q.f1+2) (s :: r)=slB (s.f1+2) r:=abX (by omega) (by omega) (by omega)
                rw [hs];refine Ev.no t3 ?_;rw [len1 _ s];exact ih (p++[q]++[s]) (s.f1+2) (by rw [hp];simp) (.inr ⟨p++[q],s,rfl,rfl,t1.1,t1.2⟩)
        · have e2:slB lo (s :: r)=false:=by
            rw [Bool.eq_false_iff];intro h;rw [nR] at h;obtain ⟨h1,h2,h3,_⟩:=h;exact t1 (uE.2 ⟨by omega,h3⟩)
          simp only [t0,t1,Bool.not_true,Bool.not_false,Bool.false_eq_true,if_false,if_true,e2];exact Ev.now _
      · have e2:slB lo (s :: r)=false:=by
          rw [Bool.eq_false_iff];intro h;rw [nR] at h;obtain ⟨h1,h2,h3,_⟩:=h;exact t0 (uE.2 ⟨by omega,by omega⟩)
        simp only [t0,Bool.not_false,if_true,e2];exact Ev.now _
  exact key l [] (-1099511627776) rfl (.inl ⟨rfl,rfl⟩)
theorem qp (k:Nat) (a n:Int) (h1 : -9223372036854775808≤a+n) (h2:a+n≤9223372036854775807):jC.f k a n=some (a+n,0):=by
  unfold jC.f;rw [jf h1 h2];have e:((decide ((a+n)>a))==(decide (n>0)))=true:=by
    by_cases h:n>0
    · have:a<a+n:=by omega
      simp [h,this]
    · have:a+n≤a:=by omega
      simp [h,this]
  rw [e];rfl
theorem add_not (k:Nat) (a n:Int) (ha : -1099511627776≤a∧a≤1099511627776) (hn : -9223372036854775808≤n∧n≤9223372036854775807) (h:¬ (-9223372036854775808≤a+n∧a+n≤9223372036854775807)):jC.f k a n=some (0,10):=by
  unfold jC.f;have e:((decide (wq (a+n)>a))==(decide (n>0)))=false:=by
    rw [tN];by_cases g:n>0
    · have:¬ wrap64 (a+n)>a:=by unfold wrap64;omega
      simp [g,this]
    · have:wrap64 (a+n)>a:=by unfold wrap64;omega
      simp [g,this]
  have n0:decide (n=0)=false:=by simp;omega
  rw [e,n0];rfl
theorem abY (l:List Sp) (n:Int) (hs:SL (-1099511627776) 1099511627776 l) (hn : -9223372036854775808≤n∧n≤9223372036854775807):Ev (fun k=>eG.f k l n) (mM n l):=by
  have hl:l.length≤2199023255553:=by have:=SL.len (lo:=0) hs;omega
  have key:∀ (rest pre:List Sp),l=pre++rest→pre.all (okM n)=true→Ev (fun k=>eG.l0 (fun _=>some ([],20)) (fun y=>some (y,0)) n l (l.length:Int) k (pre.map (fK n)) (pre.length:Int)) (mM n l):=by
    intro rest;induction rest with
    | nil =>
      intro pre hp hok;have e:l=pre:=by rw [hp];simp
      have c1:¬ (pre.length:Int)<(l.length:Int):=by rw [hp];simp
      refine Ev.step (f:=fun _=>some (pre.map (fK n),0)) (fun k => ?_) ?_
      · simp [eG.l0,eG.l0T,c1]
      · rw [e];unfold mM;rw [if_pos hok];exact Ev.now _
    | cons s r ih =>
      intro pre hp hok;have hlen:pre.length+1≤l.length:=by rw [hp];simp
      have hrd:gS l (pre.length:Int)=s:=by rw [hp];exact rdS _ _ _
      have c1:(pre.length:Int)<(l.length:Int):=by omega
      have c2:(0:Int)≤(pre.length:Int):=by omega
      have hw:=nx c1 c2 (by omega);have c3:(pre.map (fK n)).length+1≤8796093022208:=by rw [List.length_map];omega
      have ht:=SL.ticks hs (s:=s) (by rw [hp];simp);have bad:okM n s=false→mM n l=([],20):=fun h=>by
        unfold mM;rw [if_neg (by rw [hp,List.all_append,List.all_cons,h];simp)]
      refine Ev.step (fun k=>rfl) ?_;simp only [eG.l0,eG.l0T,decide_eq_true_eq,c1,c2,c3,if_true,hrd,aee,hw];by_cases g0 : -9223372036854775808≤s.f0+n∧s.f0+n≤9223372036854775807
      · by_cases g1 : -9223372036854775808≤s.f1+n∧s.f1+n≤9223372036854775807
        · simp only [qp _ _ _ g0.1 g0.2,qp _ _ _ g1.1 g1.2,Option.bind_some]
          by_cases t0:okT (s.f0+n)=true
          · by_cases t1:okT (s.f1+n)=true
            · have:=ih (pre++[s]) (by rw [hp];simp) (by rw [List.all_append,hok];simp [okM,t0,t1])
              simp only [t0,t1,decide_true,Bool.not_true,Bool.false_eq_true,if_false];rw [List.map_append] at this;rw [len1 _ s];exact this
            · rw [bad (by simp [okM,t1])]
              simp only [t0,t1,decide_true,Bool.not_true,Bool.not_false,Bool.false_eq_true,if_false,if_true];exact Ev.now _
          · rw [bad (by simp [okM,t0])]
            simp only [t0,decide_true,Bool.not_true,Bool.not_false,Bool.false_eq_true,if_false,if_true];exact Ev.now _
        · have:okT (s.f1+n)=false:=by unfold okT;simp;omega
          rw [bad (by simp [okM,this])];simp only [qp _ _ _ g0.1 g0.2,add_not _ _ _ (show -1099511627776≤s.f1∧s.f1≤1099511627776 by omega) hn g1,Option.bind_some];exact Ev.now _
      · have:okT (s.f0+n)=false:=by unfold okT;simp;omega
        rw [bad (by simp [okM,this])];by_cases g1 : -9223372036854775808≤s.f1+n∧s.f1+n≤9223372036854775807
        · simp only [add_not _ _ _ (show -1099511627776≤s.f0∧s.f0≤1099511627776 by omega) hn g0,qp _ _ _ g1.1 g1.2,Option.bind_some]
          exact Ev.now _
        · simp only [add_not _ _ _ (show -1099511627776≤s.f0∧s.f0≤1099511627776 by omega) hn g0,add_not _ _ _ (show -1099511627776≤s.f1∧s.f1≤1099511627776 by omega) hn g1,Option.bind_some]
          exact Ev.now _
  exact key l [] rfl rfl
theorem abZ (p:List Sp) (z:Sp) (h:(p++[z]).length≤4611686018427387904):wq (((p++[z]).length:Int) - 1)=(p.length:Int)∧gS (p++[z]) (p.length:Int)=z:=by
  refine ⟨?_,rdS p [] z⟩;rw [jf (by omega) (by omega)];simp
theorem aeg (k:Nat) (l:List Sp) (h:l.length≤4611686018427387904):iG.f k l=some (⟨(su l).1,(su l).2.1⟩,(su l).2.2):=by
  rcases List.eq_nil_or_concat l with rfl | ⟨p,z,rfl⟩
  · simp [iG.f,su]
  · have e:p.concat z=p++[z]:=by simp
    rw [e] at h ⊢;obtain ⟨w,r⟩:=abZ p z h;have c0:¬ ((p++[z]).length:Int)=0:=by simp only [List.length_append,List.length_singleton];omega
    have c1:(0:Int)<((p++[z]).length:Int):=by omega
    have c2:(p.length:Int)<((p++[z]).length:Int):=by simp only [List.length_append,List.length_singleton];omega
    have c3:(0:Int)≤(p.length:Int):=by omega
    have hg:(p++[z]).getLast? = some z:=by simp
    simp only [iG.f,decide_eq_true_eq,c0,c1,w,c2,c3,r,if_true,if_false];unfold su;rw [hg];cases p <;> simp [gS]
theorem ab0 (k:Nat) (a b:List Sp) (h:a.length≤4611686018427387904):fJ.f k a b=some (jJ a b):=by
  rcases List.eq_nil_or_concat a with rfl | ⟨p,z,rfl⟩
  · simp [fJ.f,jJ]
  · have e:p.concat z=p++[z]:=by simp
    rw [e] at h ⊢;obtain ⟨w,r⟩:=abZ p z h;have c0:¬ ((p++[z]).length:Int)=0:=by simp only [List.length_append,List.length_singleton];omega
    have c2:(p.length:Int)<((p++[z]).length:Int):=by simp only [List.length_append,List.length_singleton];omega
    have c3:(0:Int)≤(p.length:Int):=by omega
    simp only [fJ.f,decide_eq_true_eq,c0,w,c2,c3,r,if_true,if_false];cases b with
    | nil=>simp [jJ]
    | cons s q =>
      have:¬ (((s :: q).length:Int)=0):=by simp;omega
      have c1:(0:Int)<((s :: q).length:Int):=by simp
      rw [if_neg this,if_pos c1];simp [jJ,gS]
end Go.Proofs.YtcomnjodjijcmaaGreat.Q
namespace Go.Proofs.YtcomnjodjijcmaaGreat.Q
set_option linter.unusedVariables false
set_option linter.unusedSimpArgs false
open Go.RowKit Go.Proofs.YtcomnjodjijcmaaGreatW.dB Go.Proofs.YtcomnjodjijcmaaGreatW.eO M R P
section
variable {p c:Int} {core:List (List Sp)} {odd:List Gn}
theorem ah0 (k:Nat) (a b:Int):cmp_Compare_int.f k a b=some (if a<b then -1 else if a>b then 1 else 0):=by
  unfold cmp_Compare_int.f;by_cases h1:a<b
  · simp [cmp_isNaN_int.f,h1]
  · by_cases h2:a>b
    · simp [cmp_isNaN_int.f,h1,h2]
    · simp [cmp_isNaN_int.f,h1,h2]
theorem Ev.shift {α:Type} {g:Nat→Option α} {r:α} (h:Ev g r):Ev (fun k=>g (k+1)) r:=let ⟨K,h⟩:=h;⟨K,fun k hk=>h (k+1) (by omega)⟩
theorem ab1 {a b:Int} (ha : -4611686018427387904≤a∧a≤4611686018427387904) (hb:0<b) : -4611686018427387904≤a / b∧a / b≤4611686018427387904:=by
  constructor
  · refine (Int.le_ediv_iff_mul_le hb).2 ?_
    have:(-4611686018427387904:Int)*b ≤ -4611686018427387904*1:=Int.mul_le_mul_of_nonpos_left (by omega) (by omega);omega
  · rcases Int.lt_or_le a 0 with h | h
    · have:=Int.ediv_neg_of_neg_of_pos h hb;omega
    · have:=Int.ediv_le_self b h;omega
theorem uL (x:Int) (h0:0≤x) (h1:x<18446744073709551616):IntKind.wrap .u64 (BitVec.ofInt 64 x &&& BitVec.ofInt 64 4294967295).toNat=x % 4294967296:=afh x h0 h1
end
section
variable {p c:Int} {core:List (List Sp)} {odd:List Gn}
theorem ab2 (k:Nat) (a:Int) (l:List Sp) (b:Int):jc.f k a l b=some (if a<b then -1 else if a>b then 1 else 0):=by
  unfold jc.f;rw [ah0];rfl
end
variable [Inhabited WT]
variable {p c:Int} {core:List (List Sp)} {odd:List Gn}
theorem aed (lo hi:Nat) (h:hi≤4611686018427387903) (hl:lo≤hi):wq (Int.fdiv (wC .u64 (wq ((lo:Int)+(hi:Int)))) 2)=(((lo+hi) / 2:Nat):Int):=by
  rw [jf (n:=(lo:Int)+hi) (by omega) (by omega),aaX];have:IntKind.u64.wrap ((lo:Int)+hi)=(lo:Int)+hi:=by
    simp only [IntKind.wrap,IntKind.bits,IntKind.signed];simp;omega
  rw [this,Int.fdiv_eq_ediv_of_nonneg _ (by omega),jf (by omega) (by omega)];omega
theorem uM (h:SF p c core odd) (i:Int):∃ r,Ev (fun k=>fq.f k p c core odd i) r∧ags odd i r:=by
  have hn:odd.length≤6000:=h.hlo;simp only [fq.f,ab2,Option.bind_some,decide_eq_true_eq];have key:∀ (d lo hi:Nat),hi - lo=d→lo≤hi→hi≤odd.length→(∀ j (hj:j<odd.length),j<lo→odd[j].f0<i)→(∀ j (hj:j<odd.length),hi≤j→i≤odd[j].f0) →
      ∃ r,Ev (fun k=>fq.l0 (fun y=>if y<(odd.length:Int) then if 0≤y then if y<(odd.length:Int) then some (y,decide ((if (gG odd y).f0<i then (-1:Int) else if (gG odd y).f0>i then 1 else 0)=0)) else none else none else some (y,false)) odd i k (lo:Int) (hi:Int)) r∧ags odd i r:=by
    intro d;induction d using Nat.strongRecOn with
    | ind d ih =>
      intro lo hi hd hle hhn hlow hhigh;by_cases hlt:lo<hi
      · have c1:(lo:Int)<(hi:Int):=by omega
        have hm:=aed lo hi (by omega) hle;have hmid:(lo+hi) / 2<odd.length:=by omega
        have hrd:=rdG odd ((lo+hi) / 2) hmid;have c2:(0:Int)≤(((lo+hi) / 2:Nat):Int):=by omega
        have c3:(((lo+hi) / 2:Nat):Int)<(odd.length:Int):=by omega
        have hw:wq ((((lo+hi) / 2:Nat):Int)+1)=(((lo+hi) / 2+1:Nat):Int):=by rw [jf (by omega) (by omega)];simp
        by_cases t:odd[(lo+hi) / 2].f0<i
        · obtain ⟨r,r1,r2⟩:=ih (hi - ((lo+hi) / 2+1)) (by omega) ((lo+hi) / 2+1) hi rfl (by omega) hhn (fun j hj h'=>by
            rcases Nat.lt_or_ge j ((lo+hi) / 2) with g | g
            · have:=xU h.hup hmid g;omega
            · have:j=(lo+hi) / 2:=by omega
              subst this;exact t) hhigh
          refine ⟨r,Ev.step (fun k=>rfl) ?_,r2⟩;simp only [fq.l0,fq.l0T,decide_eq_true_eq,c1,hm,c2,c3,hrd,ab2,t,Option.bind_some,hw,if_true];exact Ev.yes (by omega) r1
        · obtain ⟨r,r1,r2⟩:=ih ((lo+hi) / 2 - lo) (by omega) lo ((lo+hi) / 2) rfl (by omega) (by omega) hlow (fun j hj h'=>by
            rcases Nat.lt_or_ge ((lo+hi) / 2) j with g | g
            · have:=xU h.hup hj g;omega
            · have:j=(lo+hi) / 2:=by omega
              subst this;omega)
          refine ⟨r,Ev.step (fun k=>rfl) ?_,r2⟩;have hneg:¬ (if odd[(lo+hi) / 2].f0<i then (-1:Int) else if odd[(lo+hi) / 2].f0>i then 1 else 0)<0:=by rw [if_neg t];split <;> omega
          simp only [fq.l0,fq.l0T,decide_eq_true_eq,c1,hm,c2,c3,hrd,ab2,Option.bind_some,hneg,if_true,if_false];exact r1
      · have he:lo=hi:=by omega
        subst he;have c1:¬ (lo:Int)<(lo:Int):=by omega
        by_cases hlast:lo<odd.length
        · have hx:=hhigh lo hlast (by omega)
          refine ⟨((lo:Int),decide (odd[lo].f0=i)),Ev.step (f:=fun _=>some ((lo:Int),decide (odd[lo].f0=i))) (fun k => ?_) (Ev.now _),?_⟩
          · have c2:(lo:Int)<(odd.length:Int):=by omega
            have c3:(0:Int)≤(lo:Int):=by omega
            have c4:¬ odd[lo].f0<i:=by omega
            simp only [fq.l0,fq.l0T,decide_eq_true_eq,c1,c2,c3,rdG odd lo hlast,c4,if_true,if_false];by_cases g:odd[lo].f0>i
            · have:¬ odd[lo].f0=i:=by omega
              simp [g,this]
            · have:odd[lo].f0=i:=by omega
              simp [g,this]
          · refine ⟨by omega,by show (lo:Int)≤_;omega,fun j hj hl=>hlow j hj (by simp only at hl;omega),fun j hj hl=>hhigh j hj (by simp only at hl;omega),fun e=>⟨by simpa using hlast,by simpa using e⟩,fun e => ?_⟩
            rw [jF];intro g hg;obtain ⟨j,hj,rfl⟩:=List.getElem_of_mem hg;have e':¬ odd[lo].f0=i:=by simpa using e
            rcases Nat.lt_or_ge j lo with g | g
            · have:=hlow j hj g;omega
            · rcases Nat.lt_or_ge lo j with g2 | g2
              · have:=xU h.hup hj g2;omega
              · have:j=lo:=by omega
                subst this;exact e'
        · refine ⟨((lo:Int),false),Ev.step (f:=fun _=>some ((lo:Int),false)) (fun k => ?_) (Ev.now _),?_⟩
          · have c2:¬ (lo:Int)<(odd.length:Int):=by omega
            simp only [fq.l0,fq.l0T,decide_eq_true_eq,c1,c2,if_false]
          · refine ⟨by omega,by show (lo:Int)≤_;omega,fun j hj hl=>hlow j hj (by simp only at hl;omega),fun j hj hl=>hhigh j hj (by simp only at hl;omega),(fun e=>by cases e),fun e => ?_⟩
            rw [jF];intro g hg;obtain ⟨j,hj,rfl⟩:=List.getElem_of_mem hg;have:=hlow j hj (by omega);omega
  exact key _ 0 odd.length rfl (by omega) (Nat.le_refl _) (fun j hj h=>by omega) (fun j hj h=>by omega)
theorem qw (a b:Int) (ha : -4611686018427387904≤a∧a≤4611686018427387904) (hb:0<b∧b≤4611686018427387904):Ev (fun k=>gN.f k a b) (a / b,a % b,0):=by
  have h1:=Int.emod_nonneg a (show b≠0 by omega);have h2:=Int.emod_lt_of_pos a hb.1;have h3:=Int.mul_ediv_add_emod a b;have hq:=ab1 ha hb.1;have b0:¬ b=0:=by omega
  have b1:¬ b = -1:=by omega
  have bn:decide (b<0)=false:=by simp;omega
  refine Ev.congr (f:=fun _=>some (a / b,a % b,0)) (fun k => ?_) (Ev.now _);unfold gN.f;rw [if_neg (by simpa using b0),if_neg (by simpa using b1),if_neg b0,if_neg b0];simp only [bn,Bool.not_eq_true',decide_eq_false_iff_not];have ht:=Int.tmod_add_mul_tdiv a b;rcases Int.lt_or_le a 0 with hneg | hpos
  · by_cases hz:Int.tmod a b=0
    · have hdvd:b ∣ a:=Int.dvd_of_tmod_eq_zero hz
      have e1:a % b=0:=Int.emod_eq_zero_of_dvd hdvd;have e2:Int.tdiv a b=a / b:=by
        have:b*Int.tdiv a b=b*(a / b):=by rw [hz] at ht;omega
        exact Int.eq_of_mul_eq_mul_left (by omega) this
      simp only [hz,e2,e1,not_true,if_false];rw [jf (n:=a / b) (by omega) (by omega)]
    · have t1:Int.tmod a b≤0:=(by have h0:=Int.tmod_nonneg b (show 0 ≤ -a by omega);rw [Int.neg_tmod] at h0;omega)
      have t2 : -b<Int.tmod a b:=by
        have:=Int.lt_tmod_of_pos a hb.1;omega
      have e2:Int.tdiv a b=a / b+1:=by
        have k1:b*(a / b - Int.tdiv a b)=Int.tmod a b - a % b:=by rw [Int.mul_sub];omega
        have k2:a / b - Int.tdiv a b<0:=by
          rcases Int.lt_or_le (a / b - Int.tdiv a b) 0 with g | g
          · exact g
          · have:0≤b*(a / b - Int.tdiv a b):=Int.mul_nonneg (by omega) g
            omega
        have k3 : -2<a / b - Int.tdiv a b:=by
          rcases Int.lt_or_le (-2) (a / b - Int.tdiv a b) with g | g
          · exact g
          · have:b*(a / b - Int.tdiv a b)≤b*(-2):=Int.mul_le_mul_of_nonneg_left g (by omega)
            omega
        omega
      have e1:Int.tmod a b+b=a % b:=by
        have:b*Int.tdiv a b=b*(a / b)+b:=by rw [e2,Int.mul_add,Int.mul_one]
        omega
      have a1:Int.tmod a b<0:=by omega
      simp only [hz,a1,e2,e1,not_false_eq_true,if_true,decide_true];rw [jf (n:=a / b+1) (by omega) (by omega),jf (n:=a / b+1 - 1) (by omega) (by omega),jf (n:=a % b) (by omega) (by omega)];simp
  · have e1:Int.tmod a b=a % b:=Int.tmod_eq_emod_of_nonneg hpos
    have e2:Int.tdiv a b=a / b:=Int.tdiv_eq_ediv_of_nonneg hpos;have a1:¬ a % b<0:=by omega
    simp only [e1,e2,a1,decide_false,beq_self_eq_true];rw [jf (n:=a / b) (by omega) (by omega)];simp
theorem zA (n:Int):wC .u64 n=n % 18446744073709551616:=by rw [aaX,wrap_u64]
theorem uN {n:Int} (h₀:0≤n) (h₁:n<18446744073709551616):wC .u64 n=n:=by rw [zA];omega
theorem ab3 (k:Nat) (a b:Int) (ha:0≤a∧a<18446744073709551616) (hb:0≤b∧b<18446744073709551616):bits_Mul64.f k a b=some (a*b / 18446744073709551616,a*b % 18446744073709551616):=by
  obtain ⟨a1,ha1⟩:∃ a1,a / 4294967296=a1:=⟨_,rfl⟩;obtain ⟨a0,ha0⟩:∃ a0,a % 4294967296=a0:=⟨_,rfl⟩;obtain ⟨b1,hb1⟩:∃ b1,b / 4294967296=b1:=⟨_,rfl⟩;obtain ⟨b0,hb0⟩:∃ b0,b % 4294967296=b0:=⟨_,rfl⟩;have ea:a=a1*4294967296+a0:=by omega
  have eb:b=b1*4294967296+b0:=by omega
  have x1:=zo a0 b0 (by omega) (by omega) (by omega) (by omega);have y1:=zo a1 b0 (by omega) (by omega) (by omega) (by omega);have z1:=zo a0 b1 (by omega) (by omega) (by omega) (by omega);have v1:=zo a1 b1 (by omega) (by omega) (by omega) (by omega);have id:a*b=a1*b1*18446744073709551616+(a1*b0+a0*b1)*4294967296+a0*b0:=by rw [ea,eb];grind
  have hN:a*b<18446744073709551616*18446744073709551616:=by
    have:=Int.mul_le_mul (show a≤18446744073709551615 by omega) (show b≤18446744073709551615 by omega) hb.1 (by omega);omega
  have fd:∀ x:Int,Int.fdiv x 4294967296=x / 4294967296:=fun x=>Int.fdiv_eq_ediv_of_nonneg _ (by omega);unfold bits_Mul64.f;simp only [fd];rw [uL a ha.1 ha.2,uL b hb.1 hb.2,ha1,ha0,hb1,hb0];rw [zA (a*b),id];rw [id] at hN;obtain ⟨x,hx⟩:∃ x,a0*b0=x:=⟨_,rfl⟩;obtain ⟨y,hy⟩:∃ y,a1*b0=y:=⟨_,rfl⟩;obtain ⟨z,hz⟩:∃ z,a0*b1=z:=⟨_,rfl⟩;obtain ⟨v,hv⟩:∃ v,a1*b1=v:=⟨_,rfl⟩;simp only [hx,hy,hz,hv] at x1 y1 z1 v1 hN ⊢;rw [uN (n:=x) (by omega) (by omega),uN (n:=y) (by omega) (by omega),uN (n:=z) (by omega) (by omega),uN (n:=v) (by omega) (by omega)];rw [uN (n:=y+x / 4294967296) (by omega) (by omega)];rw [uL (y+x / 4294967296) (by omega) (by omega)];rw [uN (n:=(y+x / 4294967296) % 4294967296+z) (by omega) (by omega)];rw [uN (n:=v+(y+x / 4294967296) / 4294967296) (by omega) (by omega)];rw [uN (n:=v+(y+x / 4294967296) / 4294967296+((y+x / 4294967296) % 4294967296+z) / 4294967296) (by omega) (by omega)];congr 1;refine Prod.ext ?_ rfl;show v+(y+x / 4294967296) / 4294967296+((y+x / 4294967296) % 4294967296+z) / 4294967296=(v*18446744073709551616+(y+z)*4294967296+x) / 18446744073709551616;omega
theorem zB (k:Nat) (a:Int) (h1 : -9223372036854775808≤a) (h2:a≤9223372036854775807):iF.f k a=some (if a<0 then -a else a):=by
  simp only [iF.f,decide_eq_true_eq,zA];by_cases h:a<0
  · rw [if_pos h,if_pos h]
    congr 1
    omega
  · rw [if_neg h,if_neg h]
    congr 1
    omega
theorem zC (k:Nat) (n:Int) (m:Bool) (h:0≤n∧n<18446744073709551616):iy.f k n m=some (if m=true then (if n≤9223372036854775808 then (-n,0) else (0,10)) else (if n≤9223372036854775807 then (n,0) else (0,10))):=by
  cases m with
  | true =>
    simp only [iy.f,decide_eq_true_eq,if_true];by_cases g:n≤9223372036854775808
    · have:wq (wC .u64 (0 - n)) = -n:=by rw [tN,zA];unfold wrap64;omega
      rw [if_pos g,if_pos g,this]
    · simp [g]
  | false =>
    simp only [iy.f,decide_eq_true_eq];by_cases g:n≤9223372036854775807
    · have:wq n=n:=jf (by omega) g
      simp [g,this]
    · simp [g]
theorem zD (a b:Int) (ha : -9223372036854775808≤a∧a≤9223372036854775807) (hb:0≤b∧b≤9223372036854775807):Ev (fun k=>iK.f k a b) (zq a b):=by
  obtain ⟨n,hn⟩:∃ n,(if a<0 then -a else a)=n:=⟨_,rfl⟩;have hn0:0≤n∧n≤9223372036854775808:=by split at hn <;> omega
  have hb0:(if b<0 then -b else b)=b:=by rw [if_neg (by omega)]
  have hm:n*b=if a<0 then -(a*b) else a*b:=by
    rw [← hn];split
    · rw [Int.neg_mul]
    · rfl
  have hp:0≤n*b:=Int.mul_nonneg hn0.1 hb.1;have hbd:(decide (b<0))=false:=by simp;omega
  refine Ev.congr (f:=fun _=>some (zq a b)) (fun k => ?_) (Ev.now _);unfold iK.f;simp only [zB k a ha.1 ha.2,zB k b (by omega) hb.2,hn,hb0,Option.bind_some,ab3 k n b (by omega) (by omega),hbd,Bool.not_eq_true',decide_eq_false_iff_not];by_cases hhi:n*b / 18446744073709551616=0
  · have hlt:n*b<18446744073709551616:=by omega
    have hmod:n*b % 18446744073709551616=n*b:=by omega
    simp only [hhi,hmod,not_true,if_false];rw [zC k (n*b) _ ⟨hp,hlt⟩,Option.bind_some];by_cases hs:a<0
    · rw [if_pos hs] at hm
      simp only [hs,decide_true,hm];unfold zq;by_cases hz : -(a*b)≤9223372036854775808
      · simp [hz,show -9223372036854775808≤a*b∧a*b≤9223372036854775807 by omega]
      · simp [hz,show ¬ (-9223372036854775808≤a*b∧a*b≤9223372036854775807) by omega]
    · rw [if_neg hs] at hm
      simp only [hs,decide_false,hm];unfold zq;by_cases hz:a*b≤9223372036854775807
      · simp [hz,show -9223372036854775808≤a*b by omega]
      · simp [hz]
  · have:zq a b=(0,10):=by
      unfold zq;rw [if_neg];split at hm <;> omega
    rw [this,if_pos hhi]
end Go.Proofs.YtcomnjodjijcmaaGreat.Q
namespace Go.Proofs.YtcomnjodjijcmaaGreat.Q
set_option linter.unusedVariables false
set_option linter.unusedSimpArgs false
open Go.RowKit Go.Proofs.YtcomnjodjijcmaaGreatW.dB Go.Proofs.YtcomnjodjijcmaaGreatW.eO M R P
variable [Inhabited WT]
variable {p c:Int} {core:List (List Sp)} {odd:List Gn}
theorem ab4 (h:SF p c core odd) (i:Int) (hi : -4611686018427387904≤i∧i≤4611686018427387904):Ev (fun k=>je.f k p c core odd i) (pI p c core odd i):=by
  obtain ⟨r,r1,r2⟩:=uM h i;have hc0:=h.hc;have hl0:=h.hl;unfold je.f;refine Ev.bind r1 ?_;by_cases hr:r.2=true
  · obtain ⟨hj,he⟩:=r2.is hr
    have hv:pI p c core odd i=(odd[r.1.toNat].f1,0,0):=by
      unfold pI;rw [← he,mO h.hup (List.getElem_mem hj)]
    rw [hv];have c1:=r2.low;have c2:r.1<(odd.length:Int):=by omega
    simp only [hr,c1,c2,if_true,aiL odd _ hj];exact Ev.now _
  · have hr':r.2=false:=by simpa using hr
    have hno:=r2.no hr';simp only [hr',Bool.false_eq_true,if_false,decide_eq_true_eq];by_cases hc:c=0
    · have hv:pI p c core odd i=([],0,0):=by unfold pI;rw [hno];simp [hc]
      rw [hv];exact Ev.yes hc (Ev.now _)
    · have hv:pI p c core odd i=(gK c core i,zq (i / c) p):=by unfold pI;rw [hno];simp [hc]
      rw [hv];refine Ev.no hc (Ev.bind (qw i c hi (by omega)) ?_);have h1:=Int.emod_nonneg i hc;have h2:=Int.emod_lt_of_pos i (show 0<c by omega);have hq:=ab1 (b:=c) hi (by omega);have hp0:=h.hp0;have hp1:=h.hp1;refine Ev.bind (zD (i / c) p (by omega) (by omega)) ?_;have h4:(i % c).toNat<core.length:=by omega
      have e2:gK c core i=core[(i % c).toNat]:=by unfold gK;rw [if_neg hc,List.getD_eq_getElem?_getD,List.getElem?_eq_getElem h4];rfl
      have h5:i % c<(core.length:Int):=by omega
      simp only [h1,h5,if_true,e2,aiM core _ h4];exact Ev.now _
theorem jN (h:SF p c core odd) (i:Int):Ev (fun k=>fM.f k p c core odd i) (jW p c core odd i):=by
  unfold fM.f jW;simp only [j5,Option.bind_some,Bool.not_eq_true',decide_eq_true_eq,decide_eq_false_iff_not];by_cases hi:inR i
  · have hi':=hi
    unfold inR at hi';simp only [hi,not_true,if_false,if_true];refine Ev.bind (ab4 h i (by omega)) ?_;have hk:=wL (p:=p) (c:=c) (core:=core) (odd:=odd) i;have aa:=h.uF i;by_cases hz:fs c core odd i=[]
    · rw [if_pos hz]
      exact Ev.yes (by rw [hk,hz];rfl) (Ev.now _)
    · rw [if_neg hz]
      have hlen:¬ ((fs c core odd i).length:Int)=0:=by
        intro e;exact hz (List.eq_nil_of_length_eq_zero (by omega))
      simp only [hk,hlen,if_false];have ab:=aa.ends hz;by_cases he:(pI p c core odd i).2.2=0
      · simp only [he,not_true,if_false]
        have hb:(pI p c core odd i).2.1=fb p c odd i ∧ -9223372036854775808≤fb p c odd i∧fb p c odd i≤9223372036854775807:=by
          unfold pI at he ⊢;unfold fb;cases ho:jA odd i with
          | some l=>simp
          | none =>
            simp only [ho] at he ⊢;by_cases hc:c=0
            · subst hc;simp
            · simp only [if_neg hc,zq] at he ⊢
              split at he
              · rename_i hm;simp only [if_pos hm];exact ⟨trivial,hm⟩
              · simp at he
        simp only [hb.1];exact Ev.bind (f:=fun _ a=>some (a.1,a.2)) (abY _ _ aa hb.2) (Ev.now _)
      · have hb:fb p c odd i < -9223372036854775808∨9223372036854775807<fb p c odd i:=by
          unfold pI at he;unfold fb;cases ho:jA odd i with
          | some l=>simp [ho] at he
          | none =>
            simp only [ho] at he ⊢;by_cases hc:c=0
            · simp [hc] at he
            · simp only [if_neg hc,zq] at he
              split at he
              · simp at he
              · omega
        have hm:mM (fb p c odd i) (fs c core odd i)=([],20):=by
          unfold mM;rw [if_neg];rw [aa.oI hz];omega
        rw [hm];exact Ev.yes he (Ev.now _)
  · simp only [hi,not_false_eq_true,if_true,if_false]
    exact Ev.now _
theorem uO (h:SF p c core odd) (i:Int) (hi:inR i):Ev (fun k=>jE.f k p c core odd i) (decide (fs c core odd i≠[])):=by
  unfold inR at hi;unfold jE.f;refine Ev.bind (ab4 h i (by omega)) ?_;rw [wL];refine Ev.congr (f:=fun _=>some (decide (fs c core odd i≠[]))) (fun k => ?_) (Ev.now _);congr 1;cases fs c core odd i with
  | nil=>simp
  | cons s r=>simp
theorem ab5 (h:SF p c core odd):∃ b,Ev (fun k=>eY.f k p c core odd) b∧(b=true↔∀ l∈core,l=[]):=by
  have hl0:=h.hl;unfold eY.f;have key:∀ (rest pre:List (List Sp)),core=pre++rest→(∀ l∈pre,l=[])→∃ b,Ev (fun k=>eY.l0 (fun y=>some (!decide (y≥0))) (some true) core (core.length:Int) k (pre.length:Int)) b∧(b=true↔∀ l∈core,l=[]):=by
    intro rest;induction rest with
    | nil =>
      intro pre hp he;refine ⟨true,Ev.step (f:=fun _=>some true) (fun k => ?_) (Ev.now _),?_⟩
      · have c1:¬ (pre.length:Int)<(core.length:Int):=by rw [hp];simp
        simp only [eY.l0,eY.l0T,decide_eq_true_eq,c1,if_false]
      · simp only [List.append_nil] at hp
        subst hp;exact ⟨fun _=>he,fun _=>rfl⟩
    | cons l r ih =>
      intro pre hp he;have hlen:pre.length+1≤core.length:=by rw [hp];simp
      have hrd:gL core (pre.length:Int)=l:=by rw [hp];simp [gL]
      have c1:(pre.length:Int)<(core.length:Int):=by omega
      have c2:(0:Int)≤(pre.length:Int):=by omega
      have hw:=nx c1 c2 (by omega);by_cases hz:l=[]
      · obtain ⟨x,x1,x2⟩:=ih (pre++[l]) (by rw [hp];simp) (fun y hy=>by rcases List.mem_append.1 hy with hy | hy;exact he y hy;simp at hy;rw [hy];exact hz)
        refine ⟨x,Ev.step (fun k=>rfl) ?_,x2⟩;simp only [eY.l0,eY.l0T,decide_eq_true_eq,c1,c2,if_true,hrd,hw,iR.f,hz,Option.bind_some];rw [len1 _ l];exact x1
      · refine ⟨false,Ev.step (f:=fun _=>some false) (fun k => ?_) (Ev.now _),?_⟩
        · have:((l.length:Int)>0):=by have:=List.length_pos_iff.2 hz;omega
          simp only [eY.l0,eY.l0T,decide_eq_true_eq,c1,c2,if_true,hrd,iR.f,this,Option.bind_some];simp
        · constructor
          · intro e;cases e
          · intro e;exact absurd (e l (by rw [hp];simp)) hz
  exact key core [] rfl (by simp)
theorem aaw (h:SF p c core odd) (a:Int) (ha : -1099511627776≤a∧a≤1099511627777):∃ r,Ev (fun k=>dH.f k p c core odd a 1) r∧zu c core odd a r:=by
  have hlo:=h.hlo;obtain ⟨b,b1,b2⟩:=ab5 h;unfold dH.f;by_cases hb:b=true
  · have hbare:=b2.1 hb
    obtain ⟨r,r1,r2⟩:=uM h a;have key:∀ (d n:Nat),odd.length - n=d→n≤odd.length→(∀ j (hj:j<odd.length),j<n→odd[j].f0<a∨odd[j].f1=[])→(∀ j (hj:j<odd.length),n≤j→a≤odd[j].f0) →
        ∃ x,Ev (fun k=>dH.l1 (fun y=>some (y,true)) (some (0,false)) 1 odd k (n:Int)) x∧zu c core odd a x:=by
      intro d;induction d with
      | zero =>
        intro n hd hn h1 h2;have hnn:n=odd.length:=by omega
        refine ⟨(0,false),Ev.step (f:=fun _=>some (0,false)) (fun k => ?_) (Ev.now _),(fun e=>by cases e),fun _=>⟨rfl,fun m hm _ => ?_⟩⟩
        · have c1:¬ (n:Int)<(odd.length:Int):=by omega
          simp [dH.l1,dH.l1T,c1]
        · refine Classical.byContradiction fun hne => ?_
          obtain ⟨j,hj,e1,e2⟩:=uG h hbare hne;rcases h1 j hj (by omega) with g | g
          · omega
          · exact e2 g
      | succ d ih =>
        intro n hd hn h1 h2;have hlt:n<odd.length:=by omega
        have c0:(n:Int)≥0:=by omega
        have c1:(n:Int)<(odd.length:Int):=by omega
        have c2:(0:Int)≤(n:Int):=by omega
        by_cases hz:odd[n].f1=[]
        · obtain ⟨x,x1,x2⟩:=ih (n+1) (by omega) (by omega) (fun j hj hjn=>by
            rcases Nat.lt_or_ge j n with g | g
            · exact h1 j hj g
            · have:j=n:=by omega
              subst this;exact .inr hz) (fun j hj hjn=>h2 j hj (by omega))
          refine ⟨x,Ev.step (fun k=>rfl) ?_,x2⟩;have hw:wq ((n:Int)+1)=((n+1:Nat):Int):=by rw [jf (by omega) (by omega)];simp
          simp only [dH.l1,dH.l1T,decide_eq_true_eq,c0,c1,c2,if_true,rdG odd n hlt,hz,hw];exact x1
        · refine ⟨(odd[n].f0,true),Ev.step (f:=fun _=>some (odd[n].f0,true)) (fun k => ?_) (Ev.now _),fun _=>⟨h2 n hlt (Nat.le_refl _),h.hidx _ (List.getElem_mem hlt),by rw [zx h hlt];exact hz,fun m hm1 hm2 => ?_⟩,(fun e=>by cases e)⟩
          · have c3:(odd[n].f1.length:Int)>0:=by have:=List.length_pos_iff.2 hz;omega
            simp only [dH.l1,dH.l1T,decide_eq_true_eq,c0,c1,c2,c3,if_true,rdG odd n hlt]
          · refine Classical.byContradiction fun hne => ?_
            obtain ⟨j,hj,e1,e2⟩:=uG h hbare hne;rcases Nat.lt_or_ge j n with g | g
            · rcases h1 j hj g with g2 | g2
              · omega
              · exact e2 g2
            · rcases Nat.lt_or_ge n j with g2 | g2
              · have:=xU h.hup hj g2;simp only at hm2;omega
              · have:j=n:=by omega
                subst this;simp only at hm2;omega
    have e1:(r.1.toNat:Int)=r.1:=Int.toNat_of_nonneg r2.low;have hhi:=r2.high;obtain ⟨x,x1,x2⟩:=key _ r.1.toNat rfl (by omega) (fun j hj hjn=>.inl (r2.below j hj (by omega))) (fun j hj hjn=>r2.above j hj (by omega));rw [e1] at x1;refine ⟨x,?_,x2⟩;refine Ev.bind b1 (Ev.yes hb (Ev.bind r1 (Ev.no (by simp) ?_)));exact x1
  · have key:∀ (d:Nat) (i:Int),(1099511627777 - i).toNat=d→a≤i→i≤1099511627777→(∀ m,a≤m→m<i→fs c core odd m=[])→∃ x,Ev (fun k=>dH.l2 (fun y=>some (y,true)) (some (0,false)) 1 p c core odd k i) x∧zu c core odd a x:=by
      intro d;induction d with
      | zero =>
        intro i hd h1 h2 h3;have hi:¬ inR i:=by unfold inR;omega
        refine ⟨(0,false),Ev.step (f:=fun _=>some (0,false)) (fun k => ?_) (Ev.now _),(fun e=>by cases e),fun _=>⟨rfl,fun m hm hr=>h3 m hm (by unfold inR at hr;omega)⟩⟩;simp [dH.l2,dH.l2T,j5,hi]
      | succ d ih =>
        intro i hd h1 h2 h3;have hi:inR i:=by unfold inR;omega
        by_cases hz:fs c core odd i=[]
        · obtain ⟨x,x1,x2⟩:=ih (i+1) (by omega) (by omega) (by omega) (fun m hm1 hm2=>by
            rcases Int.lt_or_le m i with g | g
            · exact h3 m hm1 g
            · have:m=i:=by omega
              subst this;exact hz)
          refine ⟨x,Ev.step (fun k=>rfl) ?_,x2⟩;simp only [dH.l2,dH.l2T,j5,hi,decide_true,Option.bind_some,if_true];refine Ev.bind (uO h i hi) (Ev.no (by simp [hz]) ?_);rw [jf (by omega) (by omega)];exact x1
        · refine ⟨(i,true),Ev.step (fun k=>rfl) ?_,fun _=>⟨h1,hi,hz,h3⟩,(fun e=>by cases e)⟩
          simp only [dH.l2,dH.l2T,j5,hi,decide_true,Option.bind_some,if_true];exact Ev.bind (uO h i hi) (Ev.yes (by simp [hz]) (Ev.now _))
    obtain ⟨x,x1,x2⟩:=key _ a rfl (Int.le_refl _) ha.2 (fun m h1 h2=>by omega);exact ⟨x,Ev.bind b1 (Ev.no hb x1),x2⟩
theorem aax (h:SF p c core odd) (a:Int) (ha : -1099511627777≤a∧a≤1099511627776):∃ r,Ev (fun k=>dH.f k p c core odd a (-1)) r∧zw c core odd a r:=by
  have hlo:=h.hlo;obtain ⟨b,b1,b2⟩:=ab5 h;unfold dH.f;by_cases hb:b=true
  · have hbare:=b2.1 hb
    obtain ⟨r,r1,r2⟩:=uM h a;have key:∀ (n:Nat),n≤odd.length→(∀ j (hj:j<odd.length),n≤j→a<odd[j].f0∨odd[j].f1=[])→(∀ j (hj:j<odd.length),j<n→odd[j].f0≤a) →
        ∃ x,Ev (fun k=>dH.l1 (fun y=>some (y,true)) (some (0,false)) (-1) odd k ((n:Int) - 1)) x∧zw c core odd a x:=by
      intro n;induction n with
      | zero =>
        intro hn h1 h2;refine ⟨(0,false),Ev.step (f:=fun _=>some (0,false)) (fun k => ?_) (Ev.now _),(fun e=>by cases e),fun _=>⟨rfl,fun m hm _ => ?_⟩⟩
        · simp [dH.l1,dH.l1T]
        · refine Classical.byContradiction fun hne => ?_
          obtain ⟨j,hj,e1,e2⟩:=uG h hbare hne;rcases h1 j hj (by omega) with g | g
          · omega
          · exact e2 g
      | succ n ih =>
        intro hn h1 h2;have hlt:n<odd.length:=by omega
        have en:((n+1:Nat):Int) - 1=(n:Int):=by omega
        rw [en];have c0:(n:Int)≥0:=by omega
        have c1:(n:Int)<(odd.length:Int):=by omega
        have c2:(0:Int)≤(n:Int):=by omega
        by_cases hz:odd[n].f1=[]
        · obtain ⟨x,x1,x2⟩:=ih (by omega) (fun j hj hjn=>by
            rcases Nat.lt_or_ge n j with g | g
            · exact h1 j hj g
            · have:j=n:=by omega
              subst this;exact .inr hz) (fun j hj hjn=>h2 j hj (by omega))
          refine ⟨x,Ev.step (fun k=>rfl) ?_,x2⟩;have hw:wq ((n:Int) + -1)=(n:Int) - 1:=by rw [jf (by omega) (by omega)];omega
          simp only [dH.l1,dH.l1T,decide_eq_true_eq,c0,c1,c2,if_true,rdG odd n hlt,hz,hw];exact x1
        · refine ⟨(odd[n].f0,true),Ev.step (f:=fun _=>some (odd[n].f0,true)) (fun k => ?_) (Ev.now _),fun _=>⟨h2 n hlt (by omega),h.hidx _ (List.getElem_mem hlt),by rw [zx h hlt];exact hz,fun m hm1 hm2 => ?_⟩,(fun e=>by cases e)⟩
          · have c3:(odd[n].f1.length:Int)>0:=by have:=List.length_pos_iff.2 hz;omega
            simp only [dH.l1,dH.l1T,decide_eq_true_eq,c0,c1,c2,c3,if_true,rdG odd n hlt]
          · refine Classical.byContradiction fun hne => ?_
            obtain ⟨j,hj,e1,e2⟩:=uG h hbare hne;rcases Nat.lt_or_ge n j with g | g
            · rcases h1 j hj g with g2 | g2
              · omega
              · exact e2 g2
            · rcases Nat.lt_or_ge j n with g2 | g2
              · have:=xU h.hup hlt g2;simp only at hm2;omega
              · have:j=n:=by omega
                subst this;simp only at hm2;omega
    have e1:(r.1.toNat:Int)=r.1:=Int.toNat_of_nonneg r2.low;have hhi:=r2.high;by_cases hr:r.2=true
    · obtain ⟨hj,he⟩:=r2.is hr
      obtain ⟨x,x1,x2⟩:=key (r.1.toNat+1) (by omega) (fun j hj2 hjn=>.inl (by have:=xU h.hup hj2 (show r.1.toNat<j by omega);omega)) (fun j hj2 hjn=>by
        rcases Nat.lt_or_ge j r.1.toNat with g | g
        · have:=xU h.hup hj g;omega
        · have:j=r.1.toNat:=by omega
          subst this;omega)
      have en:((r.1.toNat+1:Nat):Int) - 1=r.1:=by omega
      rw [en] at x1;exact ⟨x,Ev.bind b1 (Ev.yes hb (Ev.bind r1 (Ev.yes (by simp) (Ev.no (by simp [hr]) x1)))),x2⟩
    · have hr':r.2=false:=by simpa using hr
      have hno:=jF.1 (r2.no hr');obtain ⟨x,x1,x2⟩:=key r.1.toNat (by omega) (fun j hj2 hjn=>.inl (by have:=r2.above j hj2 (by omega);have:=hno _ (List.getElem_mem hj2);omega)) (fun j hj2 hjn=>by have:=r2.below j hj2 (by omega);omega);have en:((r.1.toNat:Nat):Int) - 1=wq (r.1 - 1):=by rw [jf (by have:=r2.low;omega) (by omega)];omega
      rw [en] at x1;exact ⟨x,Ev.bind b1 (Ev.yes hb (Ev.bind r1 (Ev.yes (by simp) (Ev.yes (by simp [hr']) x1)))),x2⟩
  · have key:∀ (d:Nat) (i:Int),(i+1099511627777).toNat=d→i≤a → -1099511627777≤i→(∀ m,m≤a→i<m→fs c core odd m=[])→∃ x,Ev (fun k=>dH.l2 (fun y=>some (y,true)) (some (0,false)) (-1) p c core odd k i) x∧zw c core odd a x:=by
      intro d;induction d with
      | zero =>
        intro i hd h1 h2 h3;have hi:¬ inR i:=by unfold inR;omega
        refine ⟨(0,false),Ev.step (f:=fun _=>some (0,false)) (fun k => ?_) (Ev.now _),(fun e=>by cases e),fun _=>⟨rfl,fun m hm hr=>h3 m hm (by unfold inR at hr;omega)⟩⟩;simp [dH.l2,dH.l2T,j5,hi]
      | succ d ih =>
        intro i hd h1 h2 h3;have hi:inR i:=by unfold inR;omega
        by_cases hz:fs c core odd i=[]
        · obtain ⟨x,x1,x2⟩:=ih (i - 1) (by omega) (by omega) (by omega) (fun m hm1 hm2=>by
            rcases Int.lt_or_le i m with g | g
            · exact h3 m hm1 g
            · have:m=i:=by omega
              subst this;exact hz)
          refine ⟨x,Ev.step (fun k=>rfl) ?_,x2⟩;simp only [dH.l2,dH.l2T,j5,hi,decide_true,Option.bind_some,if_true];refine Ev.bind (uO h i hi) (Ev.no (by simp [hz]) ?_);rw [jf (by omega) (by omega)];exact x1
        · refine ⟨(i,true),Ev.step (fun k=>rfl) ?_,fun _=>⟨h1,hi,hz,h3⟩,(fun e=>by cases e)⟩
          simp only [dH.l2,dH.l2T,j5,hi,decide_true,Option.bind_some,if_true];exact Ev.bind (uO h i hi) (Ev.yes (by simp [hz]) (Ev.now _))
    obtain ⟨x,x1,x2⟩:=key _ a rfl (Int.le_refl _) ha.1 (fun m h1 h2=>by omega);exact ⟨x,Ev.bind b1 (Ev.no hb x1),x2⟩
theorem ab6 (h:SF p c core odd) (i:Int) (hi : -9223372036854775808≤i∧i≤9223372036854775807):∃ r,Ev (fun k=>iU.f k p c core odd i) r∧zu c core odd (max (i+1) (-1099511627776)) r:=by
  simp only [iU.f,decide_eq_true_eq];by_cases hm:i≥1099511627776
  · exact ⟨(0,false),Ev.yes hm (Ev.now _),(fun e=>by cases e),fun _=>⟨rfl,fun m h1 h2=>by unfold inR at h2;omega⟩⟩
  · obtain ⟨r,r1,r2⟩:=aaw h (max (i+1) (-1099511627776)) (by omega)
    rw [jf (n:=i+1) (by omega) (by omega),ahX];exact ⟨r,Ev.no hm (Ev.bind (f:=fun _ a=>some (a.1,a.2)) r1 (Ev.now _)),r2⟩
theorem ab7 (h:SF p c core odd) (i:Int) (hi : -9223372036854775808≤i∧i≤9223372036854775807):∃ r,Ev (fun k=>iT.f k p c core odd i) r∧zw c core odd (min (i - 1) 1099511627776) r:=by
  simp only [iT.f,decide_eq_true_eq];by_cases hm:i ≤ -1099511627776
  · exact ⟨(0,false),Ev.yes hm (Ev.now _),(fun e=>by cases e),fun _=>⟨rfl,fun m h1 h2=>by unfold inR at h2;omega⟩⟩
  · obtain ⟨r,r1,r2⟩:=aax h (min (i - 1) 1099511627776) (by omega)
    rw [jf (n:=i - 1) (by omega) (by omega),agt];exact ⟨r,Ev.no hm (Ev.bind (f:=fun _ a=>some (a.1,a.2)) r1 (Ev.now _)),r2⟩
end Go.Proofs.YtcomnjodjijcmaaGreat.Q

/- Lemmas for laws of chapter 7: what the functions that they reach compute. No condition of its own. -/
import Derived.Test.YtongeknogcboiaaGreatYW15
import Derived.Test.YtongeknogcboiaaGreatYW2
import Derived.Deep.Slices
import Derived.Test.YtongeknogcboiaaGreatYW11
namespace Go.Proofs.YtongeknogcboiaaGreat.P
set_option linter.unusedVariables false
set_option linter.unusedSimpArgs false
open Go.RowKit Go.ChangeShapes Go.WideShapes Go.Deep Go.Proofs.YtongeknogcboiaaGreatW.fP Go.Proofs.YtongeknogcboiaaGreatW.iD
theorem zZ {cs:List Value} (h:cs.length=2):∃ a b,cs=[a,b]:=by
  match cs,h with
  | [a,b],_=>exact ⟨a,b,rfl⟩
theorem aac {cs:List Value} (h:cs.length=4):∃ a b c d,cs=[a,b,c,d]:=by
  match cs,h with
  | [a,b,c,d],_=>exact ⟨a,b,c,d,rfl⟩
theorem wX {T:Type} (k:Kd T) {H:Type} {enc:TypeId × Value→H} {w:World} {base:Nat} {held:Bool} {t e:TypeId} {fuel:Nat} {cs:List Value} {x:DataW H × List MemPlace}
    (ht:Tryz.prog.underlying t=some (.slice e)) (hn:Tryz.prog.cellsOf e=k.sz) (Q:T→Prop)
    (op:∀ fuel cs x,DataW.trod enc Tryz.prog w base (fun _=>true) held fuel e cs=some x→∃ v,k.K w v cs∧Q v)
    (h:DataW.trod enc Tryz.prog w base (fun _=>true) held fuel t cs=some x) :
    ∃ (a:Option Addr) (cap:Nat) (l:List T),cs=[.slice a l.length cap]∧l.length≤cap∧Kd.C k w a l.length l∧(∀ s∈l,Q s)∧l.length≤9223372036854775807:=by
  rcases open_slice ht h with ⟨hc,_⟩ | ⟨a,len,cap,m,n,D,Pl,hc,hb,hl,hm,hmm,hx,hi⟩
  · exact ⟨none,0,[],by rw [hc];rfl,Nat.le_refl _,⟨rfl,by simp,fun h=>absurd h (by simp)⟩,by simp,by simp⟩
  · have hlm:len≤m:=by rw [hmm];simpa using hl
    have hk:∀ i,i<len→∃ v cs',k.K w v cs'∧Q v∧∀ j u,cs'[j]? = some u→w.cell? (a.add (i*k.sz+j))=some u:=by
      intro i hi';obtain ⟨cs',h1,h2⟩:=hi i (by omega);rw [hn] at h1;obtain ⟨_,hlen,hcell⟩:=World.cells?_some h1;obtain ⟨v,v1,v2⟩:=op _ _ _ h2;refine ⟨v,cs',v1,v2,fun j u hu => ?_⟩;have hj:j<k.sz:=by rw [← hlen];exact (List.getElem?_eq_some_iff.1 hu).1
      have:=hcell j hj;rw [Deep.add_add] at this;rw [this,hu]
    have hmax:len≤9223372036854775807:=by unfold maxLen at hm;omega
    suffices key:∀ q,q≤len→∃ l:List T,l.length=q∧(∀ j s,l[j]? = some s→∃ cs',k.K w s cs'∧∀ i u,cs'[i]? = some u→w.cell? (a.add (j*k.sz+i))=some u)∧∀ s∈l,Q s by
      obtain ⟨l,rfl,hl2,hfit⟩:=key len (Nat.le_refl _);refine ⟨some a,cap,l,hc,hl,⟨rfl,hmax,fun _=>⟨a,rfl,fun j s hj => ?_⟩⟩,hfit,hmax⟩;obtain ⟨cs',g1,g2⟩:=hl2 j s hj;exact ⟨cs',k.l7 g1,g1,g2⟩
    intro q;induction q with
    | zero=>exact fun _=>⟨[],rfl,fun j s h=>by simp at h,by simp⟩
    | succ q ih =>
      intro hk';obtain ⟨l,hl1,hl2,hl3⟩:=ih (by omega);obtain ⟨s,cs',h0,h1,h2⟩:=hk q (by omega);refine ⟨l++[s],by simp [hl1],fun j t hj => ?_,fun t ht => ?_⟩
      · by_cases hjk:j<l.length
        · rw [List.getElem?_append_left hjk] at hj;exact hl2 j t hj
        · rw [List.getElem?_append_right (by omega)] at hj
          have:j - l.length=0:=by
            by_cases e:j - l.length=0
            · exact e
            · rw [List.getElem?_eq_none (by simp;omega)] at hj;cases hj
          rw [this] at hj;simp at hj;subst hj;have:j=q:=by omega
          subst this;exact ⟨cs',h0,h2⟩
      · simp at ht
        rcases ht with ht | rfl
        · exact hl3 t ht
        · exact h1
section
variable {H:Type} {enc:TypeId × Value→H} {w:World} {base:Nat} {held:Bool} {fuel:Nat} {cs:List Value} {x:DataW H × List MemPlace}
theorem nA (h:DataW.trod enc Tryz.prog w base (fun _=>true) held fuel 3 cs=some x):∃ n,cs=[.int .i64 n]∧fits n:=by
  obtain ⟨n,e0,_,w0⟩:=DataW.trod_int Tryz.underlying3 h;exact ⟨n,e0,w0⟩
theorem ad8 (h:DataW.trod enc Tryz.prog w base (fun _=>true) held fuel 41 cs=some x):∃ s:Sp,k41.K w s cs∧qN s:=by
  obtain ⟨xs,n,_,_,hl,hxs,hf⟩:=DataW.trod_struct Tryz.underlying41 h;have e9:Tryz.prog.cellsOf 41=2:=by kernel_rfl
  rw [e9] at hl;have hl2:cs.length=2:=hl;clear hl e9;obtain ⟨v0,v1,rfl⟩:=zZ hl2;have g0:DataW.trod enc Tryz.prog w base (fun _=>true) held n 3 (List.take (Tryz.prog.cellsOf 3) (List.drop 0 [v0,v1]))=xs[0]? := hf 0 _ rfl;rw [show Tryz.prog.cellsOf 3=1 by kernel_rfl] at g0;have g1:DataW.trod enc Tryz.prog w base (fun _=>true) held n 3 (List.take (Tryz.prog.cellsOf 3) (List.drop 1 [v0,v1]))=xs[1]? := hf 1 _ rfl;rw [show Tryz.prog.cellsOf 3=1 by kernel_rfl] at g1;cases hx0:xs[0]? with
  | none=>have:=List.getElem?_eq_none_iff.1 hx0;rw [hxs] at this;exact absurd this (by decide)
  | some y0 =>
    cases hx1:xs[1]? with
    | none=>have:=List.getElem?_eq_none_iff.1 hx1;rw [hxs] at this;exact absurd this (by decide)
    | some y1 =>
      rw [hx0] at g0;rw [hx1] at g1;obtain ⟨a,ea,wa⟩:=nA g0;obtain ⟨b,eb,wb⟩:=nA g1;have aa:[v0]=[.int .i64 a]:=ea;have eb':[v1]=[.int .i64 b]:=eb;injection aa with aa
      injection eb' with eb'
      subst aa eb';exact ⟨⟨a,b⟩,aeG w ⟨a,b⟩,wa,wb⟩
theorem yE (h:DataW.trod enc Tryz.prog w base (fun _=>true) held fuel 28 cs=some x):∃ (a:Option Addr) (cap:Nat) (l:List Sp),cs=[.slice a l.length cap]∧l.length≤cap∧Kd.C k41 w a l.length l∧(∀ s∈l,qN s)∧l.length≤9223372036854775807 :=
  wX k41 Tryz.underlying28 (by kernel_rfl) qN (fun _ _ _ g=>ad8 g) h
theorem aaV (h:DataW.trod enc Tryz.prog w base (fun _=>true) held fuel 28 cs=some x):∃ l:List Sp,(Kd.slice 41 k41).K w l cs∧((∀ s∈l,qN s)∧l.length≤9223372036854775807):=by
  obtain ⟨a,cap,l,rfl,h1,h2,h3,h4⟩:=yE h;exact ⟨l,⟨a,cap,rfl,h1,h2⟩,h3,h4⟩
theorem aaW (h:DataW.trod enc Tryz.prog w base (fun _=>true) held fuel 22 cs=some x):∃ (a:Option Addr) (cap:Nat) (l:List (List Sp)),cs=[.slice a l.length cap]∧l.length≤cap∧Kd.C (Kd.slice 41 k41) w a l.length l∧(∀ s∈l,(∀ z∈s,qN z)∧s.length≤9223372036854775807)∧l.length≤9223372036854775807 :=
  wX (Kd.slice 41 k41) Tryz.underlying22 (by kernel_rfl) _ (fun _ _ _ g=>aaV g) h
def yF (g:S43):Prop:=fits g.f0∧(∀ z∈g.f1,qN z)∧g.f1.length≤9223372036854775807
theorem ad9 (h:DataW.trod enc Tryz.prog w base (fun _=>true) held fuel 43 cs=some x):∃ g:S43,k43.K w g cs∧yF g:=by
  obtain ⟨xs,n,_,_,hl,hxs,hf⟩:=DataW.trod_struct Tryz.underlying43 h;have e9:Tryz.prog.cellsOf 43=2:=by kernel_rfl
  rw [e9] at hl;have hl2:cs.length=2:=hl;clear hl e9;obtain ⟨v0,v1,rfl⟩:=zZ hl2;have g0:DataW.trod enc Tryz.prog w base (fun _=>true) held n 3 (List.take (Tryz.prog.cellsOf 3) (List.drop 0 [v0,v1]))=xs[0]? := hf 0 _ rfl;rw [show Tryz.prog.cellsOf 3=1 by kernel_rfl] at g0;have g1:DataW.trod enc Tryz.prog w base (fun _=>true) held n 28 (List.take (Tryz.prog.cellsOf 28) (List.drop 1 [v0,v1]))=xs[1]? := hf 1 _ rfl;rw [show Tryz.prog.cellsOf 28=1 by kernel_rfl] at g1;cases hx0:xs[0]? with
  | none=>have:=List.getElem?_eq_none_iff.1 hx0;rw [hxs] at this;exact absurd this (by decide)
  | some y0 =>
    cases hx1:xs[1]? with
    | none=>have:=List.getElem?_eq_none_iff.1 hx1;rw [hxs] at this;exact absurd this (by decide)
    | some y1 =>
      rw [hx0] at g0;rw [hx1] at g1;obtain ⟨a,ea,wa⟩:=nA g0;obtain ⟨b,cap,l,eb,l1,l2,l3,l4⟩:=yE g1;have aa:[v0]=[.int .i64 a]:=ea;have eb':[v1]=[.slice b l.length cap]:=eb;injection aa with aa
      injection eb' with eb'
      subst aa eb';exact ⟨⟨a,l⟩,aeH w ⟨a,l⟩ l1 l2,wa,l3,l4⟩
theorem acE (h:DataW.trod enc Tryz.prog w base (fun _=>true) held fuel 23 cs=some x):∃ (a:Option Addr) (cap:Nat) (l:List S43),cs=[.slice a l.length cap]∧l.length≤cap∧Kd.C k43 w a l.length l∧(∀ s∈l,yF s)∧l.length≤9223372036854775807 :=
  wX k43 Tryz.underlying23 (by kernel_rfl) yF (fun _ _ _ g=>ad9 g) h
structure aaX (p c:Int) (core:List (List Sp)) (odd:List S43):Prop where
  fp:fits p
  fc:fits c
  agx:∀ l∈core,(∀ z∈l,qN z)∧l.length≤9223372036854775807
  ahu:∀ g∈odd,yF g
  lc:core.length≤9223372036854775807
  lo:odd.length≤9223372036854775807
set_option maxRecDepth 200000 in
theorem vO {b0:Nat} {v:Value} {d:DataW H} {ps:List MemPlace} (hv:Value.okWide Tryz.prog w .any b0 25 v) (h:DataW.Trod enc Tryz.prog w base (fun _=>true) held 25 v d ps) :
    ∃ (p c:Int) (A2:Option Addr) (c2:Nat) (core:List (List Sp)) (A3:Option Addr) (c3:Nat) (odd:List S43),v=.agg #[.int .i64 p,.int .i64 c,.slice A2 core.length c2,.slice A3 odd.length c3] ∧
      Kd.C (Kd.slice 41 k41) w A2 core.length core∧core.length≤c2∧Kd.C k43 w A3 odd.length odd∧odd.length≤c3∧aaX p c core odd:=by
  have hq:=okWide_struct (P:=Tryz.prog) (w:=w) (r:=.any) (base:=b0) (t:=25) (v:=v) Tryz.underlying25;have hq2:=hq hv;obtain ⟨cs,rfl,hsz⟩:=hq2;obtain ⟨fuel,h⟩:=h;obtain ⟨xs,n,_,_,hl,hxs,hf⟩:=DataW.trod_struct Tryz.underlying25 h;have e9:Tryz.prog.cellsOf 25=4:=by kernel_rfl
  rw [e9] at hl;have hl2:cs.toList.length=4:=hl;clear hl e9;obtain ⟨l⟩:=cs;obtain ⟨v0,v1,v2,v3,rfl⟩:=aac hl2;have g0:DataW.trod enc Tryz.prog w base (fun _=>true) held n 3 (List.take (Tryz.prog.cellsOf 3) (List.drop 0 [v0,v1,v2,v3]))=xs[0]? := hf 0 _ rfl;rw [show Tryz.prog.cellsOf 3=1 by kernel_rfl] at g0;have g1:DataW.trod enc Tryz.prog w base (fun _=>true) held n 3 (List.take (Tryz.prog.cellsOf 3) (List.drop 1 [v0,v1,v2,v3]))=xs[1]? := hf 1 _ rfl;rw [show Tryz.prog.cellsOf 3=1 by kernel_rfl] at g1;have g2:DataW.trod enc Tryz.prog w base (fun _=>true) held n 22 (List.take (Tryz.prog.cellsOf 22) (List.drop 2 [v0,v1,v2,v3]))=xs[2]? := hf 2 _ rfl;rw [show Tryz.prog.cellsOf 22=1 by kernel_rfl] at g2;have g3:DataW.trod enc Tryz.prog w base (fun _=>true) held n 23 (List.take (Tryz.prog.cellsOf 23) (List.drop 3 [v0,v1,v2,v3]))=xs[3]? := hf 3 _ rfl;rw [show Tryz.prog.cellsOf 23=1 by kernel_rfl] at g3;have hx:∀ j,j<4→∃ y,xs[j]? = some y:=fun j hj=>⟨_,List.getElem?_eq_getElem (by rw [hxs];exact hj)⟩;obtain ⟨y0,e0⟩:=hx 0 (by omega);obtain ⟨y1,e1⟩:=hx 1 (by omega);obtain ⟨y2,e2⟩:=hx 2 (by omega);obtain ⟨y3,e3⟩:=hx 3 (by omega);rw [e0] at g0;rw [e1] at g1;rw [e2] at g2;rw [e3] at g3;obtain ⟨p,ep,wp⟩:=nA g0;obtain ⟨c,ec,wc⟩:=nA g1;obtain ⟨A2,c2,core,e2',l1,l2,l3,l4⟩:=aaW g2;obtain ⟨A3,c3,odd,e3',m1,m2,m3,m4⟩:=acE g3;have ac:[v0]=[.int .i64 p]:=ep;have af:[v1]=[.int .i64 c]:=ec;have aa:[v2]=[.slice A2 core.length c2]:=e2';have ab:[v3]=[.slice A3 odd.length c3]:=e3';injection ac with ac
  injection af with af
  injection aa with aa
  injection ab with ab
  subst ac af aa ab;exact ⟨p,c,A2,c2,core,A3,c3,odd,rfl,l2,l1,m2,m1,⟨wp,wc,l3,m3,l4,m4⟩⟩
end
end Go.Proofs.YtongeknogcboiaaGreat.P
namespace Go.Proofs.YtongeknogcboiaaGreat.P
set_option linter.unusedVariables false
set_option linter.unusedSimpArgs false
open Go.RowKit Go.Proofs.YtongeknogcboiaaGreatW.fP Go.Proofs.YtongeknogcboiaaGreatW.iD
section
theorem afc (pre r:List Sp) (s:Sp):xH (pre++s :: r) (pre.length:Int)=s:=by simp [xH]
def slB (lo:Int):List Sp→Bool
  | []=>true
  | s :: r=>decide (lo≤s.f0)&&(decide (s.f0≤s.f1)&&(decide (s.f1≤1099511627776)&&slB (s.f1+2) r))
theorem om {lo:Int} {l:List Sp}:slB lo l=true↔SL lo 1099511627776 l:=by
  induction l generalizing lo with
  | nil=>simp [slB,SL]
  | cons s r ih=>simp [slB,SL,ih]
end
section
end
section
def wY (l:List Sp):Int × Int × Bool :=
  match l.head?,l.getLast? with
  | some s,some z=>(s.f0,z.f1,true)
  | _,_=>(0,0,false)
def j6 (a b:List Sp):Bool :=
  match a.getLast?,b.head? with
  | some z,some s=>decide (z.f1<s.f0)
  | _,_=>true
theorem SL.rise {hi:Int}:∀ {l:List Sp} {lo:Int},SL lo hi l→∀ i j (hj:j<l.length) (hij:i<j),(l[i]'(by omega)).f1+2≤l[j].f0
  | [],_,_,_,_,hj,_=>by simp at hj
  | s :: r,lo,h,0,j+1,hj,_=>by
    have:=(SL.ticks h.2.2.2 (List.getElem_mem (by simpa using hj:j<r.length))).1;simpa using this
  | s :: r,lo,h,i+1,j+1,hj,hij=>by
    have:=SL.rise h.2.2.2 i j (by simpa using hj) (by omega);simpa using this
theorem SL.get {lo hi:Int} {l:List Sp} (h:SL lo hi l) (j:Nat) (hj:j<l.length):lo≤l[j].f0∧l[j].f0≤l[j].f1∧l[j].f1≤hi:=SL.ticks h (List.getElem_mem hj)
theorem aaY (lo hi:Nat) (h:hi≤4611686018427387903) (hl:lo≤hi):wrap64 ((IntKind.u64.wrap (wrap64 ((lo:Int)+(hi:Int)))) / 2)=(((lo+hi) / 2:Nat):Int):=by
  rw [ny (n:=(lo:Int)+hi) (by omega) (by omega)];have:IntKind.u64.wrap ((lo:Int)+hi)=(lo:Int)+hi:=by
    simp only [IntKind.wrap,IntKind.bits,IntKind.signed];simp;omega
  rw [this,ny (by omega) (by omega)];omega
theorem aaZ (yes:Bool→Bool→Bool) (hy:yes false false=false) {a b:List Sp} (ha:SL (-1099511627776) 1099511627776 a) (hb:SL (-1099511627776) 1099511627776 b) :
    SL (-1099511627776) 1099511627776 (nW yes a b)∧∀ x,lD (nW yes a b) x=yes (lD a x) (lD b x):=zH yes hy (by omega) (by omega) ha hb
theorem SL.empty {lo hi:Int} {l:List Sp} (h:SL lo hi l):(∀ x,lD l x=false)→l=[]:=by
  intro hx;cases l with
  | nil=>rfl
  | cons s r=>have:=hx s.f0;rw [lU] at this;have h2:=h.2.1;simp [h2] at this
end
section
theorem SL.front {lo hi:Int} {p r:List Sp} (h:SL lo hi (p++r)):SL lo hi p:=by
  induction p generalizing lo with
  | nil=>trivial
  | cons s p ih=>exact ⟨h.1,h.2.1,h.2.2.1,ih h.2.2.2⟩
end
section
def lV (n:Int) (s:Sp):Sp:=⟨s.f0+n,s.f1+n⟩
def okT (x:Int):Bool:=decide (-1099511627776≤x)&&decide (x≤1099511627776)
def okM (n:Int) (s:Sp):Bool:=okT (s.f0+n)&&okT (s.f1+n)
def qP (n:Int) (l:List Sp):List Sp × Int:=if l.all (okM n) then (l.map (lV n),0) else ([],20)
theorem tV {x:Int}:okT x=true ↔ -1099511627776≤x∧x≤1099511627776:=by simp [okT]
theorem aa0 {n:Int} {s:Sp}:okM n s=true↔(-1099511627776≤s.f0+n∧s.f0+n≤1099511627776)∧(-1099511627776≤s.f1+n∧s.f1+n≤1099511627776):=by simp [okM,tV]
theorem SL.shift {lo hi:Int} (n:Int):∀ {l:List Sp} {lo:Int},SL lo hi l→SL (lo+n) (hi+n) (l.map (lV n))
  | [],_,_=>trivial
  | s :: r,lo,h=>by
    obtain ⟨h1,h2,h3,h4⟩:=h;refine ⟨by simp only [lV];omega,by simp only [lV];omega,by simp only [lV];omega,?_⟩;have:=SL.shift (lo:=lo) n h4;have e:(lV n s).f1+2=s.f1+2+n:=by simp only [lV];omega
    rw [e];exact this
theorem SL.within {lo' hi' hi:Int}:∀ {l:List Sp} {lo:Int},SL lo hi l→(∀ s∈l,lo'≤s.f0∧s.f1≤hi')→SL lo' hi' l
  | [],_,_,_=>trivial
  | s :: r,lo,h,hb=>by
    obtain ⟨h1,h2,h3,h4⟩:=h;refine ⟨(hb s (by simp)).1,h2,(hb s (by simp)).2,?_⟩;refine SL.within h4 (fun t ht=>⟨?_,(hb t (by simp [ht])).2⟩)
    exact (SL.ticks h4 ht).1
theorem SL.moved {n:Int} {l:List Sp} (h:SL (-1099511627776) 1099511627776 l) (ho:l.all (okM n)=true):SL (-1099511627776) 1099511627776 (l.map (lV n)):=by
  refine SL.within (SL.shift (lo:=0) n h) (fun s hs => ?_)
  obtain ⟨t,ht,rfl⟩:=List.mem_map.1 hs;have:=aa0.1 (List.all_eq_true.1 ho t ht);simp only [lV];omega
end
section
end
section
abbrev Gn:=S43
def kZ:List Sp→Int
  | []=>0
  | s :: _=>s.f0
def lu:List Sp→Int
  | []=>0
  | [s]=>s.f1
  | _ :: t :: r=>lu (t :: r)
theorem aa1 (l:List Sp) (s:Sp):lu (l++[s])=s.f1:=by
  induction l with
  | nil=>rfl
  | cons a r ih=>cases r with
    | nil=>rfl
    | cons b r=>exact ih
theorem SL.ends {lo hi:Int}:∀ {l:List Sp},SL lo hi l→l≠[]→lo≤kZ l∧kZ l≤lu l∧lu l≤hi
  | [],_,h=>absurd rfl h
  | [s],⟨a,b,c,_⟩,_=>⟨a,b,c⟩
  | s :: t :: r,⟨a,b,c,d⟩,_=>by
    obtain ⟨e1,e2,e3⟩:=SL.ends d (by simp);simp only [kZ,lu] at *;exact ⟨a,by omega,e3⟩
theorem SL.between {lo hi:Int} {l:List Sp} (h:SL lo hi l) {s:Sp} (hs:s∈l):kZ l≤s.f0∧s.f1≤lu l:=by
  induction l generalizing lo with
  | nil=>simp at hs
  | cons a r ih =>
    obtain ⟨h1,h2,h3,h4⟩:=h;cases r with
    | nil=>simp at hs;subst hs;exact ⟨Int.le_refl _,Int.le_refl _⟩
    | cons b r =>
      have e:=h4.ends (by simp);rcases List.mem_cons.1 hs with rfl | hs
      · simp only [kZ,lu] at *;omega
      · have:=ih h4 hs;simp only [kZ,lu] at *;omega
theorem SL.qQ {lo hi:Int} {l:List Sp} (h:SL lo hi l) {x:Int} (hx:lD l x=true):kZ l≤x∧x≤lu l:=by
  obtain ⟨s,hs,h1,h2⟩:=nu.1 hx;have:=h.between hs;omega
theorem sj (n:Int) (l:List Sp) (h:l≠[]):kZ (l.map (lV n))=kZ l+n:=by
  cases l with
  | nil=>exact absurd rfl h
  | cons s r=>rfl
theorem o9 (n:Int):∀ (l:List Sp),l≠[]→lu (l.map (lV n))=lu l+n
  | [],h=>absurd rfl h
  | [s],_=>rfl
  | s :: t :: r,_=>o9 n (t :: r) (by simp)
theorem SL.oN {n:Int} {l:List Sp} (h:SL (-1099511627776) 1099511627776 l) (hn:l≠[]):l.all (okM n)=true↔(-1099511627776≤kZ l+n∧lu l+n≤1099511627776):=by
  constructor
  · intro ha
    have hm:=h.moved ha;have:=hm.ends (by simpa using hn);rw [sj n l hn,o9 n l hn] at this;exact ⟨this.1,this.2.2⟩
  · intro ⟨h1,h2⟩
    rw [List.all_eq_true];intro s hs;have:=h.between hs;have:=h.ticks hs;rw [aa0];omega
def jI:List Gn→Int→Option (List Sp)
  | [],_=>none
  | g :: r,i=>if g.f0=i then some g.f1 else jI r i
theorem lg {odd:List Gn} {i:Int} {l:List Sp} (h:jI odd i=some l):∃ g∈odd,g.f0=i∧g.f1=l:=by
  induction odd with
  | nil=>cases h
  | cons g r ih =>
    simp only [jI] at h;split at h
    · cases h;exact ⟨g,by simp,‹_›,rfl⟩
    · obtain ⟨g',h1,h2⟩:=ih h;exact ⟨g',by simp [h1],h2⟩
theorem pq {odd:List Gn} {i:Int}:jI odd i=none↔∀ g∈odd,g.f0≠i:=by
  induction odd with
  | nil=>simp [jI]
  | cons g r ih =>
    simp only [jI,List.mem_cons,forall_eq_or_imp];by_cases h:g.f0=i
    · simp [h]
    · simp [h,ih]
theorem qR {odd:List Gn} (hu:odd.Pairwise (fun a b=>a.f0<b.f0)) {g:Gn} (hg:g∈odd):jI odd g.f0=some g.f1:=by
  induction odd with
  | nil=>simp at hg
  | cons a r ih =>
    obtain ⟨h1,h2⟩:=List.pairwise_cons.1 hu;simp only [jI];rcases List.mem_cons.1 hg with rfl | hg
    · rw [if_pos rfl]
    · have:=h1 g hg;rw [if_neg (by omega)];exact ih h2 hg
def iM (c:Int) (core:List (List Sp)) (i:Int):List Sp:=if c=0 then [] else core.getD (i % c).toNat []
def fs (c:Int) (core:List (List Sp)) (odd:List Gn) (i:Int):List Sp:=match jI odd i with | some l=>l | none=>iM c core i
def fb (p c:Int) (odd:List Gn) (i:Int):Int:=match jI odd i with | some _=>0 | none=>i / c*p
def gLo (p c:Int) (core:List (List Sp)) (odd:List Gn) (i:Int):Int:=kZ (fs c core odd i)+fb p c odd i
def gHi (p c:Int) (core:List (List Sp)) (odd:List Gn) (i:Int):Int:=lu (fs c core odd i)+fb p c odd i
def inR (i:Int):Prop := -1099511627776≤i∧i≤1099511627776
instance (i:Int):Decidable (inR i):=by unfold inR;exact inferInstance
structure SF (p c:Int) (core:List (List Sp)) (odd:List Gn):Prop where
  hc:c=core.length
  hp0:0≤p
  hp1:p≤1099511627776
  hz:c=0↔p=0
  hcore:∀ l∈core,SL (-1099511627776) 1099511627776 l
  hodd:∀ g∈odd,SL (-1099511627776) 1099511627776 g.f1
  hidx:∀ g∈odd,inR g.f0
  hup:odd.Pairwise (fun a b=>a.f0<b.f0)
  hl:core.length≤6000
  hlo:odd.length≤6000
structure TF (p:Int) (core:List (List Sp)):Prop where
  ta:core.Pairwise (fun a b=>a≠[]→b≠[]→lu a<kZ b)
  tb:∀ a∈core,∀ b∈core,a≠[]→b≠[]→lu a<kZ b+p
variable {p c:Int} {core:List (List Sp)} {odd:List Gn}
theorem SF.lW (h:SF p c core odd):SF p c core []:=⟨h.hc,h.hp0,h.hp1,h.hz,h.hcore,by simp,by simp,List.Pairwise.nil,h.hl,by simp⟩
theorem SF.lN (h:SF p c core odd) (i:Int) (hc:c≠0):iM c core i∈core:=by
  have h0:=h.hc;have h1:0≤i % c:=Int.emod_nonneg _ hc;have h2:i % c<c:=Int.emod_lt_of_pos _ (by omega);have h3:(i % c).toNat<core.length:=by omega
  unfold iM;rw [if_neg hc,List.getD_eq_getElem?_getD,List.getElem?_eq_getElem h3];exact List.getElem_mem h3
theorem SF.aa2 (h:SF p c core odd) (i:Int):SL (-1099511627776) 1099511627776 (iM c core i):=by
  by_cases hc:c=0
  · unfold iM;rw [if_pos hc];trivial
  · exact h.hcore _ (h.lN i hc)
theorem SF.wZ (h:SF p c core odd) (i:Int):SL (-1099511627776) 1099511627776 (fs c core odd i):=by
  unfold fs;cases ho:jI odd i with
  | none=>exact h.aa2 i
  | some l=>obtain ⟨g,hg,_,rfl⟩:=lg ho;exact h.hodd g hg
theorem SF.kT (h:SF p c core odd) {i:Int} (hn:fs c core odd i≠[]):gLo p c core odd i≤gHi p c core odd i:=by
  have:=(h.wZ i).ends hn;unfold gLo gHi;omega
theorem yG (h:SF p c core odd) (t:TF p core) {i k:Int} (hik:i<k) (hi:iM c core i≠[]) (hk:iM c core k≠[]):lu (iM c core i)+i / c*p<kZ (iM c core k)+k / c*p:=by
  have hc:c≠0:=by intro e;apply hi;unfold iM;rw [if_pos e]
  have h0:=h.hc;have hcp:0<c:=by omega
  have mi:=h.lN i hc;have mk:=h.lN k hc;have i1:0≤i % c:=Int.emod_nonneg _ hc;have i2:i % c<c:=Int.emod_lt_of_pos _ hcp;have k1:0≤k % c:=Int.emod_nonneg _ hc;have k2:k % c<c:=Int.emod_lt_of_pos _ hcp;have ei:=Int.mul_ediv_add_emod i c;have ek:=Int.mul_ediv_add_emod k c;rcases Int.lt_trichotomy (i / c) (k / c) with hq | hq | hq
  · have hb:=t.tb _ mi _ mk hi hk
    have:i / c*p+p≤k / c*p:=by
      have h1:(i / c+1)*p≤(k / c)*p:=Int.mul_le_mul_of_nonneg_right (by omega) h.hp0;rw [Int.add_mul,Int.one_mul] at h1;exact h1
    omega
  · rw [hq] at ei ⊢
    have hr:i % c<k % c:=by omega
    have hlt:(i % c).toNat<(k % c).toNat:=by omega
    have hkl:(k % c).toNat<core.length:=by omega
    have hil:(i % c).toNat<core.length:=by omega
    have e1:iM c core i=core[(i % c).toNat]:=by unfold iM;rw [if_neg hc,List.getD_eq_getElem?_getD,List.getElem?_eq_getElem hil];rfl
    have e2:iM c core k=core[(k % c).toNat]:=by unfold iM;rw [if_neg hc,List.getD_eq_getElem?_getD,List.getElem?_eq_getElem hkl];rfl
    have:=List.pairwise_iff_getElem.1 t.ta _ _ hil hkl hlt (by rw [← e1];exact hi) (by rw [← e2];exact hk);rw [← e1,← e2] at this;omega
  · exfalso
    have h1:c*(k / c)+c≤c*(i / c):=by
      have:c*(k / c+1)≤c*(i / c):=Int.mul_le_mul_of_nonneg_left (by omega) (by omega);rw [Int.mul_add,Int.mul_one] at this;exact this
    omega
def gap (c:Int) (core:List (List Sp)) (odd:List Gn) (i k:Int):Prop:=∀ m,i<m→m<k→fs c core odd m=[]
structure BF (p c:Int) (core:List (List Sp)) (odd:List Gn):Prop where
  up:∀ g∈odd,g.f1≠[]→∀ k,g.f0<k→inR k→fs c core odd k≠[]→gap c core odd g.f0 k→gHi p c core odd g.f0<gLo p c core odd k
  dn:∀ g∈odd,g.f1≠[]→∀ k,k<g.f0→inR k→fs c core odd k≠[]→gap c core odd k g.f0→gHi p c core odd k<gLo p c core odd g.f0
theorem acF (h:SF p c core odd) (t:TF p core) (b:BF p c core odd):∀ (n:Nat) (i k:Int),(k - i).toNat≤n→i<k→inR i→inR k→fs c core odd i≠[]→fs c core odd k≠[]→gHi p c core odd i<gLo p c core odd k:=by
  intro n;induction n with
  | zero=>intro i k hn hik;omega
  | succ n ih =>
    intro i k hn hik ri rk hi hk;by_cases hg:gap c core odd i k
    · cases hoi:jI odd i with
      | some l =>
        obtain ⟨g,hg1,rfl,rfl⟩:=lg hoi;exact b.up g hg1 (by unfold fs at hi;rw [hoi] at hi;exact hi) k hik rk hk hg
      | none =>
        cases hok:jI odd k with
        | some l =>
          obtain ⟨g,hg1,rfl,rfl⟩:=lg hok;exact b.dn g hg1 (by unfold fs at hk;rw [hok] at hk;exact hk) i hik ri hi hg
        | none =>
          have:=yG h t hik (by unfold fs at hi;rw [hoi] at hi;exact hi) (by unfold fs at hk;rw [hok] at hk;exact hk);unfold gHi gLo fs fb;rw [hoi,hok];exact this
    · have:∃ m,i<m∧m<k∧fs c core odd m≠[]:=Classical.byContradiction fun hx=>hg (fun m h1 h2=>Classical.byContradiction fun h3=>hx ⟨m,h1,h2,h3⟩)
      obtain ⟨m,h1,h2,h3⟩:=this;unfold inR at ri rk;have a1:=ih i m (by omega) h1 ri ⟨by omega,by omega⟩ hi h3;have a2:=ih m k (by omega) h2 ⟨by omega,by omega⟩ rk h3 hk;have a3:=h.kT h3;omega
structure FOK (p c:Int) (core:List (List Sp)) (odd:List Gn):Prop where
  s:SF p c core odd
  t:TF p core
  ord:∀ i k,i<k→inR i→inR k→fs c core odd i≠[]→fs c core odd k≠[]→gHi p c core odd i<gLo p c core odd k
theorem FOK.of (h:SF p c core odd) (t:TF p core) (b:BF p c core odd):FOK p c core odd:=⟨h,t,fun i k hik=>acF h t b _ i k (Nat.le_refl _) hik⟩
end
section
variable {p c:Int} {core:List (List Sp)} {odd:List Gn}
theorem rdG (l:List Gn) (j:Nat) (hj:j<l.length):xI l (j:Int)=l[j]:=by simp [xI,hj]
structure afd (odd:List Gn) (i:Int) (r:Int × Bool):Prop where
  low:0≤r.1
  high:r.1≤odd.length
  below:∀ j (hj:j<odd.length),(j:Int)<r.1→odd[j].f0<i
  above:∀ j (hj:j<odd.length),r.1≤(j:Int)→i≤odd[j].f0
  is:r.2=true→∃ (hj:r.1.toNat<odd.length),odd[r.1.toNat].f0=i
  no:r.2=false→jI odd i=none
theorem w9 {l:List Gn} (h:l.Pairwise (fun a b=>a.f0<b.f0)) {i j:Nat} (hj:j<l.length) (hij:i<j):(l[i]'(by omega)).f0<l[j].f0:=List.pairwise_iff_getElem.1 h i j (by omega) hj hij
end
section
theorem wrap_u64 (n:Int):IntKind.u64.wrap n=n % 18446744073709551616:=by simp [IntKind.wrap,IntKind.bits,IntKind.signed]
theorem wraps_u64 (n:Int) (h₀:0≤n) (h₁:n<2 ^ 64):IntKind.u64.wrap n=n:=by rw [wrap_u64];omega
theorem aea (x:Int) (h0:0≤x) (h1:x<18446744073709551616):Go.bits .and .u64 x 4294967295=x % 4294967296:=bits_mask .u64 64 (by decide) wraps_u64 32 (by decide) x h0 h1
theorem yH (u v:Int) (hu:0≤u) (hu':u≤4294967295) (hv:0≤v) (hv':v≤4294967295):0≤u*v∧u*v≤18446744065119617025:=by
  refine ⟨Int.mul_nonneg hu hv,?_⟩;have:=Int.mul_le_mul hu' hv' hv (show (0:Int)≤4294967295 by omega);omega
def abI (a b:Int):Int × Int:=if -9223372036854775808≤a*b∧a*b≤9223372036854775807 then (a*b,0) else (0,10)
end
section
variable {p c:Int} {core:List (List Sp)} {odd:List Gn}
theorem rdL (l:List (List Sp)) (j:Nat) (hj:j<l.length):abO l (j:Int)=l[j]:=by simp [abO,hj]
theorem ahj (l:List Gn) (x:Int) (hj:x.toNat<l.length):xI l x=l[x.toNat]:=by simp [xI,hj]
theorem ahk (l:List (List Sp)) (x:Int) (hj:x.toNat<l.length):abO l x=l[x.toNat]:=by simp [abO,hj]
def pz (p c:Int) (core:List (List Sp)) (odd:List Gn) (i:Int):List Sp × Int × Int :=
  match jI odd i with | some l=>(l,0,0) | none=>if c=0 then ([],0,0) else (iM c core i,abI (i / c) p)
theorem vP (i:Int):(pz p c core odd i).1=fs c core odd i:=by
  unfold pz fs;cases jI odd i with
  | some l=>rfl
  | none =>
      by_cases hc:c=0
      · simp [hc,iM]
      · simp [hc]
def lC (p c:Int) (core:List (List Sp)) (odd:List Gn) (i:Int):List Sp × Int :=
  if inR i then (if fs c core odd i=[] then ([],0) else qP (fb p c odd i) (fs c core odd i)) else ([],20)
def yI (c:Int) (core:List (List Sp)) (odd:List Gn) (a:Int) (r:Int × Bool):Prop :=
  (r.2=true→a≤r.1∧inR r.1∧fs c core odd r.1≠[]∧∀ m,a≤m→m<r.1→fs c core odd m=[])∧(r.2=false→r.1=0∧∀ m,a≤m→inR m→fs c core odd m=[])
def yJ (c:Int) (core:List (List Sp)) (odd:List Gn) (a:Int) (r:Int × Bool):Prop :=
  (r.2=true→r.1≤a∧inR r.1∧fs c core odd r.1≠[]∧∀ m,m≤a→r.1<m→fs c core odd m=[])∧(r.2=false→r.1=0∧∀ m,m≤a→inR m→fs c core odd m=[])
theorem tX (h:SF p c core odd) (hb:∀ l∈core,l=[]) {m:Int} (hm:fs c core odd m≠[]):∃ j,∃ hj:j<odd.length,odd[j].f0=m∧odd[j].f1≠[]:=by
  unfold fs at hm;cases ho:jI odd m with
  | some l =>
    obtain ⟨g,hg,e1,e2⟩:=lg ho;obtain ⟨j,hj,rfl⟩:=List.getElem_of_mem hg;exact ⟨j,hj,e1,by rw [ho] at hm;rw [e2];exact hm⟩
  | none =>
    rw [ho] at hm;by_cases hc:c=0
    · exact absurd (by simp [iM,hc]) hm
    · exact absurd (hb _ (h.lN m hc)) hm
theorem vQ (h:SF p c core odd) {j:Nat} (hj:j<odd.length):fs c core odd odd[j].f0=odd[j].f1:=by
  unfold fs;rw [qR h.hup (List.getElem_mem hj)]
end
section
variable {p c:Int} {core:List (List Sp)} {odd:List Gn}
theorem aeb (a b:Int):mn a b=min a b:=by unfold mn;split <;> omega
theorem afe (a b:Int):mx a b=max a b:=by unfold mx;split <;> omega
theorem SL.len {lo hi:Int}:∀ {l:List Sp} {lo:Int},SL lo hi l→(l.length:Int)≤max 0 (hi - lo+1)
  | [],_,_=>by simp;omega
  | s :: r,lo,⟨h1,h2,h3,h4⟩=>by
    have:=SL.len (lo:=lo) h4;simp only [List.length_cons];omega
theorem SL.aa3 {l:List Sp} (h:SL (-1099511627776) 1099511627776 l):l.length≤4611686018427387903:=by have:=SL.len (lo:=0) h;omega
theorem tY:∀ (l:List Sp),l≠[]→∃ z,l.getLast? = some z∧z.f1=lu l
  | [],h=>absurd rfl h
  | [s],_=>⟨s,rfl,rfl⟩
  | s :: t :: r,_=>by
    obtain ⟨z,h1,h2⟩:=tY (t :: r) (by simp);exact ⟨z,by rw [List.getLast?_cons_cons];exact h1,h2⟩
theorem vR (a b:List Sp):j6 a b=true↔(a≠[]→b≠[]→lu a<kZ b):=by
  by_cases ha:a=[]
  · subst ha;simp [j6]
  · obtain ⟨z,h1,h2⟩:=tY a ha
    cases b with
    | nil=>unfold j6;rw [h1];simp
    | cons s r=>unfold j6;rw [h1];simp [kZ,h2,ha]
theorem acG (l:List Sp):wY l=if l=[] then (0,0,false) else (kZ l,lu l,true):=by
  by_cases ha:l=[]
  · subst ha;rfl
  · obtain ⟨z,h1,h2⟩:=tY l ha
    rw [if_neg ha];cases l with
    | nil=>exact absurd rfl ha
    | cons s r=>unfold wY;rw [h1];simp [kZ,h2]
end
section
variable {p c:Int} {core:List (List Sp)} {odd:List Gn}
structure MF (core:List (List Sp)) (odd:List Gn):Prop where
  mc:∀ l∈core,l.length≤9223372036854775807
  mo:∀ g∈odd,g.f1.length≤9223372036854775807
end
section
variable {p c:Int} {core:List (List Sp)} {odd:List Gn}
def neL (l:List (List Sp)):List (List Sp):=l.filter (fun x=>decide (x≠[]))
theorem xg {l:List (List Sp)} {x:List Sp}:x∈neL l↔x∈l∧x≠[]:=by simp [neL]
theorem acH (l:List (List Sp)) (x:List Sp):neL (l++[x])=if x=[] then neL l else neL l++[x]:=by
  unfold neL;rw [List.filter_append];by_cases h:x=[]
  · simp [h]
  · simp [h]
theorem aff (x:List Sp) (hx:x≠[]) (hl:x.length≤4611686018427387903):wrap64 ((x.length:Int) - 1)=(x.length:Int) - 1∧0≤(x.length:Int) - 1∧(xH x ((x.length:Int) - 1)).f1=lu x:=by
  rcases List.eq_nil_or_concat x with rfl | ⟨o,z,rfl⟩
  · exact absurd rfl hx
  · rw [List.concat_eq_append] at *
    have e:((o++[z]).length:Int) - 1=(o.length:Int):=by simp
    refine ⟨ny (by simp only [List.length_append,List.length_singleton];omega) (by omega),by rw [e];omega,?_⟩;rw [e,aa1];have:=afc o [] z;rw [this]
theorem afg (x:List Sp) (hx:x≠[]):0<x.length∧(xH x 0).f0=kZ x:=by
  cases x with
  | nil=>exact absurd rfl hx
  | cons s r=>exact ⟨by simp,rfl⟩
end
section
variable {p c:Int} {core:List (List Sp)} {odd:List Gn}
structure Ex (p c:Int) (core:List (List Sp)) (odd:List Gn) (i:Int):Prop where
  r:inR i
  n:fs c core odd i≠[]
  lo : -1099511627776≤gLo p c core odd i
  hi:gHi p c core odd i≤1099511627776
def gT (p c:Int) (core:List (List Sp)) (odd:List Gn) (i:Int):List Sp:=(fs c core odd i).map (lV (fb p c odd i))
theorem SF.j4 (h:SF p c core odd) {i:Int} (e:Ex p c core odd i):lC p c core odd i=(gT p c core odd i,0):=by
  unfold lC;rw [if_pos e.r,if_neg e.n];unfold qP;have e1:=e.lo;have e2:=e.hi;rw [if_pos (((h.wZ i).oN e.n).2 ⟨e1,e2⟩)];rfl
theorem SF.tZ (h:SF p c core odd) {i:Int} (hn:fs c core odd i≠[]) (e:¬ Ex p c core odd i):lC p c core odd i=([],20):=by
  unfold lC;by_cases hr:inR i
  · rw [if_pos hr,if_neg hn]
    unfold qP;rw [if_neg];intro ha;have:=((h.wZ i).oN hn).1 ha;exact e ⟨hr,hn,this.1,this.2⟩
  · rw [if_neg hr]
theorem SF.uf (h:SF p c core odd) {i:Int} (hr:inR i) (hn:fs c core odd i≠[]) (e:(lC p c core odd i).2=0):Ex p c core odd i:=by
  refine Classical.byContradiction fun hx => ?_;rw [h.tZ hn hx] at e;cases e
theorem lI {i:Int} (hn:fs c core odd i≠[]):gT p c core odd i≠[]∧kZ (gT p c core odd i)=gLo p c core odd i∧lu (gT p c core odd i)=gHi p c core odd i :=
  ⟨by unfold gT;simpa using hn,sj _ _ hn,o9 _ _ hn⟩
theorem SF.rF (h:SF p c core odd) {i:Int} (e:Ex p c core odd i):SL (-1099511627776) 1099511627776 (gT p c core odd i):=(h.wZ i).moved (((h.wZ i).oN e.n).2 ⟨e.lo,e.hi⟩)
end
section
variable {p c:Int} {core:List (List Sp)} {odd:List Gn}
theorem aa4 (a p A:Int) (hp:0<p) (h1 : -A≤a) (h2:a≤A) (hA:0≤A) : -A≤a / p∧a / p≤A:=by
  have h3:A*1≤A*p:=Int.mul_le_mul_of_nonneg_left (by omega) hA;rw [Int.mul_one] at h3;exact ⟨Int.le_ediv_of_mul_le hp (by rw [Int.neg_mul];omega),Int.ediv_le_of_le_mul hp (by omega)⟩
theorem aa5 (q c A C:Int) (h1 : -A≤q) (h2:q≤A) (hc:0≤c) (hC:c≤C) (hA:0≤A) : -(A*C)≤q*c∧q*c≤A*C:=by
  have a1:q*c≤A*c:=Int.mul_le_mul_of_nonneg_right h2 hc;have a2:(-A)*c≤q*c:=Int.mul_le_mul_of_nonneg_right h1 hc;have a3:A*c≤A*C:=Int.mul_le_mul_of_nonneg_left hC hA;rw [Int.neg_mul] at a2;omega
theorem aec (q c r:Int) (h0:0≤r) (h1:r<c):(q*c+r) / c=q∧(q*c+r) % c=r:=by
  have hc:c≠0:=by omega
  constructor
  · rw [Int.add_comm,Int.add_mul_ediv_right _ _ hc,Int.ediv_eq_zero_of_lt h0 h1];omega
  · rw [Int.add_comm,Int.add_mul_emod_self_right,Int.emod_eq_of_lt h0 h1]
theorem vS (h:SF p c core odd) (q:Int) (j:Nat) (hj:j<core.length):iM c core (q*c+j)=core[j]∧(q*c+j) / c=q:=by
  have h0:=h.hc;obtain ⟨e1,e2⟩:=aec q c j (by omega) (by omega);refine ⟨?_,e1⟩;unfold iM;rw [if_neg (by omega),e2,List.getD_eq_getElem?_getD,Int.toNat_natCast,List.getElem?_eq_getElem hj];rfl
theorem nN (h:SF p c core odd) {m:Int} (hm:iM c core m≠[]):0<c∧0<p∧∃ j:Nat,∃ hj:j<core.length,m % c=(j:Int)∧iM c core m=core[j]:=by
  have hc:c≠0:=by intro e;apply hm;unfold iM;rw [if_pos e]
  have h0:=h.hc;have h1:0≤m % c:=Int.emod_nonneg _ hc;have h2:m % c<c:=Int.emod_lt_of_pos _ (by omega);have h3:(m % c).toNat<core.length:=by omega
  have hp:p≠0:=fun e=>hc (h.hz.2 e);have hp0:=h.hp0;refine ⟨by omega,by omega,(m % c).toNat,h3,by omega,?_⟩;unfold iM;rw [if_neg hc,List.getD_eq_getElem?_getD,List.getElem?_eq_getElem h3];rfl
def upI (T p c:Int) (l:List Sp) (j:Int):Int := -((lu l - T) / p)*c+j
theorem ac3 (h:SF p c core odd) (T:Int) {m:Int} (hm:iM c core m≠[]):T≤gHi p c core [] m↔upI T p c (iM c core m) (m % c)≤m:=by
  obtain ⟨hc,hp,_⟩:=nN h hm;have e:=Int.mul_ediv_add_emod m c;have e1:gHi p c core [] m=lu (iM c core m)+m / c*p:=rfl;rw [e1];unfold upI;generalize lu (iM c core m)=L;generalize m / c=q at *;generalize m % c=r at *;subst e;have k1 : -q≤(L - T) / p ↔ -q*p≤L - T:=Int.le_ediv_iff_mul_le hp;generalize (L - T) / p=z at *;have k2 : -z*c≤q*c ↔ -z≤q:=by
    constructor
    · intro g;exact Int.le_of_mul_le_mul_right g hc
    · intro g;exact Int.mul_le_mul_of_nonneg_right g (by omega)
  have k3 : -q*p = -(q*p):=Int.neg_mul _ _;have k4:c*q=q*c:=Int.mul_comm _ _;rw [k4];rw [k3] at k1;constructor
  · intro g
    have:=k1.2 (by omega);have:=k2.2 (by omega);omega
  · intro g
    have:=k2.1 (by omega);have:=k1.1 (by omega);omega
theorem aa6 (h:SF p c core odd) (T:Int) (hT : -1099511627777≤T∧T≤1099511627777) {j:Nat} (hj:j<core.length) (hn:core[j]≠[]) :
    -2199023255554 ≤ -((lu core[j] - T) / p) ∧ -((lu core[j] - T) / p)≤2199023255554 ∧ -13194139533330000 ≤ -((lu core[j] - T) / p)*c ∧ -((lu core[j] - T) / p)*c≤13194139533330000:=by
  have h0:=h.hc;have hl:=h.hl;have hp:p≠0:=fun e=>by have:=h.hz.2 e;omega
  have hp0:=h.hp0;have:=(h.hcore _ (List.getElem_mem hj)).ends hn;obtain ⟨a,b⟩:=aa4 (lu core[j] - T) p 2199023255554 (by omega) (by omega) (by omega) (by omega);generalize (lu core[j] - T) / p=z at *;obtain ⟨a1,b1⟩:=aa5 (-z) c 2199023255554 6000 (by omega) (by omega) (by omega) (by omega) (by omega);exact ⟨by omega,by omega,by omega,by omega⟩
structure PlU (p c:Int) (core:List (List Sp)) (T:Int) (r:Int × Bool):Prop where
  y:r.2=true→iM c core r.1≠[]∧T≤gHi p c core [] r.1∧∀ m,iM c core m≠[]→T≤gHi p c core [] m→r.1≤m
  n:r.2=false→∀ m,iM c core m=[]
  lo : -4611686018427387904≤r.1
  hi:r.1≤4611686018427387904
end
section
variable {p c:Int} {core:List (List Sp)} {odd:List Gn}
theorem vT (h:SF p c core odd) (t:TF p core) {i k:Int} (hik:i<k) (hi:iM c core i≠[]) (hk:iM c core k≠[]):gHi p c core [] i<gLo p c core [] k:=yG h t hik hi hk
theorem aey (h:SF p c core odd) {i:Int} (hi:iM c core i≠[]):gLo p c core [] i≤gHi p c core [] i:=h.lW.kT hi
structure PnU (p c:Int) (core:List (List Sp)) (odd:List Gn) (T:Int) (r:Int × Bool):Prop where
  y:r.2=true→Ex p c core [] r.1∧jI odd r.1=none∧T≤gHi p c core [] r.1∧∀ m,Ex p c core [] m→jI odd m=none→T≤gHi p c core [] m→r.1≤m
  n:r.2=false→r.1=0∧∀ m,Ex p c core [] m→jI odd m=none→¬ T≤gHi p c core [] m
theorem qU {m:Int} (ho:jI odd m=none):fs c core odd m=iM c core m∧gLo p c core odd m=gLo p c core [] m∧gHi p c core odd m=gHi p c core [] m:=by
  have e1:fs c core odd m=iM c core m:=by unfold fs;rw [ho]
  have e2:fb p c odd m=m / c*p:=by unfold fb;rw [ho]
  refine ⟨e1,?_,?_⟩
  · unfold gLo;rw [e1,e2];rfl
  · unfold gHi;rw [e1,e2];rfl
theorem pE {m:Int} (ho:jI odd m=none):Ex p c core odd m↔Ex p c core [] m:=by
  obtain ⟨e1,e2,e3⟩:=qU (p:=p) (c:=c) (core:=core) ho;constructor
  · intro g;exact ⟨g.r,by rw [show fs c core [] m=iM c core m from rfl,← e1];exact g.n,by rw [← e2];exact g.lo,by rw [← e3];exact g.hi⟩
  · intro g;exact ⟨g.r,by rw [e1];exact g.n,by rw [e2];exact g.lo,by rw [e3];exact g.hi⟩
theorem aa7 (h:SF p c core odd) {j:Nat} (hj:j<odd.length):fs c core odd odd[j].f0=odd[j].f1∧gLo p c core odd odd[j].f0=kZ odd[j].f1∧gHi p c core odd odd[j].f0=lu odd[j].f1:=by
  have e1:=vQ h hj;have e2:fb p c odd odd[j].f0=0:=by unfold fb;rw [qR h.hup (List.getElem_mem hj)]
  refine ⟨e1,?_,?_⟩
  · unfold gLo;rw [e1,e2];omega
  · unfold gHi;rw [e1,e2];omega
theorem ac4 (h:SF p c core odd) {j:Nat} (hj:j<odd.length) (hn:odd[j].f1≠[]):Ex p c core odd odd[j].f0:=by
  obtain ⟨e1,e2,e3⟩:=aa7 h hj;have:=(h.hodd _ (List.getElem_mem hj)).ends hn;exact ⟨h.hidx _ (List.getElem_mem hj),by rw [e1];exact hn,by rw [e2];omega,by rw [e3];omega⟩
theorem ac5 {m:Int}:jI odd m=none∨∃ j,∃ hj:j<odd.length,odd[j].f0=m:=by
  cases ho:jI odd m with
  | none=>exact .inl rfl
  | some l =>
    obtain ⟨g,hg,e1,e2⟩:=lg ho;obtain ⟨j,hj,rfl⟩:=List.getElem_of_mem hg;exact .inr ⟨j,hj,e1⟩
structure FrU (p c:Int) (core:List (List Sp)) (odd:List Gn) (T:Int) (r:Int × Bool):Prop where
  y:r.2=true→Ex p c core odd r.1∧T≤gHi p c core odd r.1∧∀ m,Ex p c core odd m→T≤gHi p c core odd m→r.1≤m
  n:r.2=false→r.1=0∧∀ m,Ex p c core odd m→¬ T≤gHi p c core odd m
def cl (t:Int):Int:=mx (mn t 1099511627777) (-1099511627777)
theorem afh (t:Int):cl t=max (min t 1099511627777) (-1099511627777):=by unfold cl;rw [afe,aeb]
end
section
variable {p c:Int} {core:List (List Sp)} {odd:List Gn}
def dnI (T p c:Int) (l:List Sp) (j:Int):Int:=(T - kZ l) / p*c+j
theorem ac6 (h:SF p c core odd) (T:Int) {m:Int} (hm:iM c core m≠[]):gLo p c core [] m≤T↔m≤dnI T p c (iM c core m) (m % c):=by
  obtain ⟨hc,hp,_⟩:=nN h hm;have e:=Int.mul_ediv_add_emod m c;have e1:gLo p c core [] m=kZ (iM c core m)+m / c*p:=rfl;rw [e1];unfold dnI;generalize kZ (iM c core m)=L;generalize m / c=q at *;generalize m % c=r at *;subst e;have k1:q≤(T - L) / p↔q*p≤T - L:=Int.le_ediv_iff_mul_le hp;generalize (T - L) / p=z at *;have k2:q*c≤z*c↔q≤z:=by
    constructor
    · intro g;exact Int.le_of_mul_le_mul_right g hc
    · intro g;exact Int.mul_le_mul_of_nonneg_right g (by omega)
  have k4:c*q=q*c:=Int.mul_comm _ _;rw [k4];constructor
  · intro g
    have:=k1.2 (by omega);have:=k2.2 (by omega);omega
  · intro g
    have:=k2.1 (by omega);have:=k1.1 (by omega);omega
theorem aa8 (h:SF p c core odd) (T:Int) (hT : -1099511627777≤T∧T≤1099511627777) {j:Nat} (hj:j<core.length) (hn:core[j]≠[]) :
    -2199023255554≤(T - kZ core[j]) / p∧(T - kZ core[j]) / p≤2199023255554 ∧ -13194139533330000≤(T - kZ core[j]) / p*c∧(T - kZ core[j]) / p*c≤13194139533330000:=by
  have h0:=h.hc;have hl:=h.hl;have hp:p≠0:=fun e=>by have:=h.hz.2 e;omega
  have hp0:=h.hp0;have:=(h.hcore _ (List.getElem_mem hj)).ends hn;obtain ⟨a,b⟩:=aa4 (T - kZ core[j]) p 2199023255554 (by omega) (by omega) (by omega) (by omega);generalize (T - kZ core[j]) / p=z at *;obtain ⟨a1,b1⟩:=aa5 z c 2199023255554 6000 (by omega) (by omega) (by omega) (by omega) (by omega);exact ⟨by omega,by omega,by omega,by omega⟩
structure PlD (p c:Int) (core:List (List Sp)) (T:Int) (r:Int × Bool):Prop where
  y:r.2=true→iM c core r.1≠[]∧gLo p c core [] r.1≤T∧∀ m,iM c core m≠[]→gLo p c core [] m≤T→m≤r.1
  n:r.2=false→∀ m,iM c core m=[]
  lo : -4611686018427387904≤r.1
  hi:r.1≤4611686018427387904
structure PnD (p c:Int) (core:List (List Sp)) (odd:List Gn) (T:Int) (r:Int × Bool):Prop where
  y:r.2=true→Ex p c core [] r.1∧jI odd r.1=none∧gLo p c core [] r.1≤T∧∀ m,Ex p c core [] m→jI odd m=none→gLo p c core [] m≤T→m≤r.1
  n:r.2=false→r.1=0∧∀ m,Ex p c core [] m→jI odd m=none→¬ gLo p c core [] m≤T
structure TlD (p c:Int) (core:List (List Sp)) (odd:List Gn) (T:Int) (r:Int × Bool):Prop where
  y:r.2=true→Ex p c core odd r.1∧gLo p c core odd r.1≤T∧∀ m,Ex p c core odd m→gLo p c core odd m≤T→m≤r.1
  n:r.2=false→r.1=0∧∀ m,Ex p c core odd m→¬ gLo p c core odd m≤T
end
section
variable {p c:Int} {core:List (List Sp)} {odd:List Gn}
theorem aaX.mf (f:aaX p c core odd):MF core odd:=⟨fun l hl=>(f.agx l hl).2,fun g hg=>(f.ahu g hg).2.2⟩
theorem aed (h:FOK p c core odd) {x i:Int} {r:Int × Bool} (s:FrU p c core odd x r) (e:Ex p c core odd i) (h1:gLo p c core odd i≤x) (h2:x≤gHi p c core odd i):r=(i,true):=by
  obtain ⟨a,b⟩:=r;cases b with
  | false=>exact absurd h2 ((s.n rfl).2 i e)
  | true =>
    obtain ⟨q1,q2,q3⟩:=s.y rfl;have:=q3 i e h2;rcases Int.lt_trichotomy a i with g | g | g
    · have:=h.ord a i g q1.r e.r q1.n e.n
      simp only at q2;omega
    · rw [g]
    · simp only at this;omega
theorem yK (h:SF p c core odd) {x i:Int} (e:Ex p c core odd i) (hx:lD (gT p c core odd i) x=true):gLo p c core odd i≤x∧x≤gHi p c core odd i:=by
  have:=(h.rF e).qQ hx;rw [(lI e.n).2.1,(lI e.n).2.2] at this;exact this
structure AtS (p c:Int) (core:List (List Sp)) (odd:List Gn) (t:Int) (r:Int × Bool):Prop where
  y:r.2=true→Ex p c core odd r.1∧lD (gT p c core odd r.1) t=true
  n:r.2=false→r.1=0∧∀ m,Ex p c core odd m→lD (gT p c core odd m) t=false
end
section
variable {p c:Int} {core:List (List Sp)} {odd:List Gn}
structure BtS (p c:Int) (core:List (List Sp)) (odd:List Gn) (h0 h1:Int) (xs:List (Int × List Sp)):Prop where
  up:xs.Pairwise (fun x y=>x.1<y.1)
  mem:∀ x∈xs,Ex p c core odd x.1∧x.2=gT p c core odd x.1∧h0≤gHi p c core odd x.1∧gLo p c core odd x.1≤h1
  all:∀ j,Ex p c core odd j→h0≤gHi p c core odd j→gLo p c core odd j≤h1→(j,gT p c core odd j)∈xs
end
section
variable {p c:Int} {core:List (List Sp)} {odd:List Gn}
structure Few (p c:Int) (core:List (List Sp)) (odd:List Gn):Prop where
  ok:FOK p c core odd
  lc:core.length≤12
  lo:odd.length≤8
  hc:∀ l∈core,l.length≤60
  ho:∀ g∈odd,g.f1.length≤60
theorem Few.fs (w:Few p c core odd) (i:Int):(fs c core odd i).length≤60:=by
  unfold P.fs;cases ho:jI odd i with
  | some l =>
    obtain ⟨g,hg,_,rfl⟩:=lg ho;exact w.ho g hg
  | none =>
    show (iM c core i).length≤60;by_cases hc:c=0
    · unfold iM;rw [if_pos hc];simp
    · exact w.hc _ (w.ok.s.lN i hc)
end
section
variable {p c:Int} {core:List (List Sp)} {odd:List Gn}
structure ahx (p:Int) (core:List (List Sp)) (odd:List Gn):Prop where
  hc:∀ l∈core,l≠[] → -100≤kZ l∧lu l≤100
  ho:∀ g∈odd,-100≤g.f0∧g.f0≤100
  hp:p≤200
theorem Few.c12 (w:Few p c core odd) (hc:c≠0):1≤c∧c≤12∧1≤p:=by
  have h1:=w.ok.s.hc;have h2:=w.lc;have h3:=w.ok.s.hz;have h4:=w.ok.s.hp0;have h5:p≠0:=fun q=>hc (h3.2 q);omega
end
end Go.Proofs.YtongeknogcboiaaGreat.P
namespace Go.Proofs.YtongeknogcboiaaGreat.Q
set_option linter.unusedVariables false
set_option linter.unusedSimpArgs false
open Go.RowKit Go.Proofs.YtongeknogcboiaaGreatW.fP Go.Proofs.YtongeknogcboiaaGreatW.iD M R P
section
theorem Ev.yes {α:Type} {c:Prop} [Decidable c] {g f:Nat→Option α} {r:α} (h:c) (k:Ev g r):Ev (fun n=>if c then g n else f n) r:=Ev.congr (fun n=>if_pos h) k
theorem Ev.no {α:Type} {c:Prop} [Decidable c] {g f:Nat→Option α} {r:α} (h:¬ c) (k:Ev f r):Ev (fun n=>if c then g n else f n) r:=Ev.congr (fun n=>if_neg h) k
theorem Ev.val {α:Type} {g:Option α} {r:α} (h:g=some r):Ev (fun _=>g) r:=⟨0,fun _ _=>h⟩
theorem rdS (pre r:List Sp) (s:Sp):gS (pre++s :: r) (pre.length:Int)=s:=by simp [gS]
theorem agy (l:List Sp) (j:Nat) (hj:j<l.length):gS l (j:Int)=l[j]:=by simp [gS,hj]
theorem rdG (l:List Gn) (j:Nat) (hj:j<l.length):gG l (j:Int)=l[j]:=by simp [gG,hj]
theorem rdL (l:List (List Sp)) (j:Nat) (hj:j<l.length):gL l (j:Int)=l[j]:=by simp [gL,hj]
theorem ahj (l:List Gn) (x:Int) (hj:x.toNat<l.length):gG l x=l[x.toNat]:=by simp [gG,hj]
theorem ahk (l:List (List Sp)) (x:Int) (hj:x.toNat<l.length):gL l x=l[x.toNat]:=by simp [gL,hj]
theorem len1 {α:Type} (pre:List α) (s:α):((pre.length:Int)+1)=((pre++[s]).length:Int):=by simp
theorem ac7 (k:Nat) (a:Int):iW.f k a=some (okT a):=by
  unfold iW.f okT;by_cases h : -1099511627776≤a
  · simp [h]
  · simp [h]
theorem kJ (k:Nat) (i:Int):iP.f k i=some (decide (inR i)):=by
  unfold iP.f inR;by_cases h : -1099511627776≤i
  · simp [h]
  · simp [h]
theorem aa9 {lo:Int} {s:Sp} {r:List Sp} (h0:lo≤s.f0) (h1:s.f0≤s.f1) (h2:s.f1≤1099511627776):slB lo (s :: r)=slB (s.f1+2) r:=by simp [slB,h0,h1,h2]
theorem ac8 {lo:Int} {s:Sp} {r:List Sp} (h:¬ (lo≤s.f0∧s.f0≤s.f1∧s.f1≤1099511627776)):slB lo (s :: r)=false:=by
  rw [Bool.eq_false_iff];intro e;rw [om] at e;exact h ⟨e.1,e.2.1,e.2.2.1⟩
end
variable [Inhabited WT]
theorem nx {n:Nat} {i:Int} (h:i<n) (h0:0≤i) (hn:n≤9223372036854775807):wq (i+1)=i+1:=by rw [sP];exact ny (by omega) (by omega)
theorem je {n:Int} (h0 : -9223372036854775808≤n) (h1:n≤9223372036854775807):wq n=n:=by rw [sP];exact ny h0 h1
theorem yL (l:List Sp) (hl:l.length≤9223372036854775807):Ev (fun k=>gJ.f k l) (slB (-1099511627776) l):=by
  have key:∀ (rest pre:List Sp) (lo:Int),l=pre++rest→(pre=[]∧lo = -1099511627776∨∃ p q,pre=p++[q]∧lo=q.f1+2 ∧ -1099511627776≤q.f1∧q.f1≤1099511627776) →
      Ev (fun k=>gJ.l0 (some false) (some true) l l (l.length:Int) k (pre.length:Int)) (slB lo rest):=by
    intro rest;induction rest with
    | nil =>
      intro pre lo hp hlo;refine Ev.step (f:=fun _=>some true) (fun k => ?_) (Ev.now _);have c1:¬ (pre.length:Int)<(l.length:Int):=by rw [hp];simp
      simp [gJ.l0,gJ.l0T,c1]
    | cons s r ih =>
      intro pre lo hp hlo;have hlen:pre.length+1≤l.length:=by rw [hp];simp
      have hrd:gS l (pre.length:Int)=s:=by rw [hp];exact rdS _ _ _
      have hlow : -1099511627776≤lo:=by rcases hlo with ⟨_,rfl⟩ | ⟨p,q,_,rfl,h,_⟩ <;> omega
      have c1:(pre.length:Int)<(l.length:Int):=by omega
      have c2:(0:Int)≤(pre.length:Int):=by omega
      have hw:=nx c1 c2 hl;refine Ev.step (fun k=>rfl) ?_;simp only [gJ.l0,gJ.l0T,decide_eq_true_eq,c1,c2,if_true,hrd,ac7,Option.bind_some,hw];by_cases t0:okT s.f0=true
      · by_cases t1:okT s.f1=true
        · simp only [t0,t1,Bool.not_true,Bool.false_eq_true,if_false]
          rw [tV] at t0 t1;by_cases t2:s.f0>s.f1
          · have:slB lo (s :: r)=false:=ac8 (by omega)
            rw [this];exact Ev.yes t2 (Ev.now _)
          · refine Ev.no t2 ?_
            rcases hlo with ⟨rfl,rfl⟩ | ⟨p,q,rfl,rfl,hq1,hq2⟩
            · refine Ev.no (by simp) ?_
              have hs:slB (-1099511627776) (s :: r)=slB (s.f1+2) r:=aa9 (by omega) (by omega) (by omega);rw [hs];exact ih [s] (s.f1+2) hp (.inr ⟨[],s,rfl,rfl,t1.1,t1.2⟩)
            · have hwp:wq (((p++[q]).length:Int) - 1)=(p.length:Int):=by rw [je (by omega) (by omega)];simp
              have hrq:gS l (p.length:Int)=q:=by rw [hp];simp [gS]
              have hw2:wq (q.f1+2)=q.f1+2:=je (by omega) (by omega);have c3:(p.length:Int)<(l.length:Int):=by simp at hlen;omega
              simp only [hwp,hrq,hw2,c3,if_true];refine Ev.yes (by simp) (Ev.yes (by omega) ?_);by_cases t3:s.f0<q.f1+2
              · have aa:slB (q.f1+2) (s :: r)=false:=ac8 (by omega)
                rw [aa];exact Ev.yes t3 (Ev.now _)
              · have hs:slB (q.f1+2) (s :: r)=slB (s.f1+2) r:=aa9 (by omega) (by omega) (by omega)
                rw [hs];refine Ev.no t3 ?_;rw [len1 _ s];exact ih (p++[q]++[s]) (s.f1+2) (by rw [hp];simp) (.inr ⟨p++[q],s,rfl,rfl,t1.1,t1.2⟩)
        · have e2:slB lo (s :: r)=false:=by
            rw [Bool.eq_false_iff];intro h;rw [om] at h;obtain ⟨h1,h2,h3,_⟩:=h;exact t1 (tV.2 ⟨by omega,h3⟩)
          simp only [t0,t1,Bool.not_true,Bool.not_false,Bool.false_eq_true,if_false,if_true,e2];exact Ev.now _
      · have e2:slB lo (s :: r)=false:=by
          rw [Bool.eq_false_iff];intro h;rw [om] at h;obtain ⟨h1,h2,h3,_⟩:=h;exact t0 (tV.2 ⟨by omega,by omega⟩)
        simp only [t0,Bool.not_false,if_true,e2];exact Ev.now _
  exact key l [] (-1099511627776) rfl (.inl ⟨rfl,rfl⟩)
theorem qg (k:Nat) (a n:Int) (h1 : -9223372036854775808≤a+n) (h2:a+n≤9223372036854775807):jO.f k a n=some (a+n,0):=by
  unfold jO.f;rw [je h1 h2];have e:((decide ((a+n)>a))==(decide (n>0)))=true:=by
    by_cases h:n>0
    · have:a<a+n:=by omega
      simp [h,this]
    · have:a+n≤a:=by omega
      simp [h,this]
  rw [e];rfl
theorem add_not (k:Nat) (a n:Int) (ha : -1099511627776≤a∧a≤1099511627776) (hn : -9223372036854775808≤n∧n≤9223372036854775807) (h:¬ (-9223372036854775808≤a+n∧a+n≤9223372036854775807)):jO.f k a n=some (0,10):=by
  unfold jO.f;have e:((decide (wq (a+n)>a))==(decide (n>0)))=false:=by
    rw [sP];by_cases g:n>0
    · have:¬ wrap64 (a+n)>a:=by unfold wrap64;omega
      simp [g,this]
    · have:wrap64 (a+n)>a:=by unfold wrap64;omega
      simp [g,this]
  have n0:decide (n=0)=false:=by simp;omega
  rw [e,n0];rfl
theorem aee (l:List Sp) (n:Int) (hs:SL (-1099511627776) 1099511627776 l) (hn : -9223372036854775808≤n∧n≤9223372036854775807):Ev (fun k=>gM.f k l n) (qP n l):=by
  have hl:l.length≤2199023255553:=by have:=SL.len (lo:=0) hs;omega
  have key:∀ (rest pre:List Sp),l=pre++rest→pre.all (okM n)=true→Ev (fun k=>gM.l0 (fun _=>some ([],20)) (fun y=>some (y,0)) n l (l.length:Int) k (pre.map (lV n)) (pre.length:Int)) (qP n l):=by
    intro rest;induction rest with
    | nil =>
      intro pre hp hok;have e:l=pre:=by rw [hp];simp
      have c1:¬ (pre.length:Int)<(l.length:Int):=by rw [hp];simp
      refine Ev.step (f:=fun _=>some (pre.map (lV n),0)) (fun k => ?_) ?_
      · simp [gM.l0,gM.l0T,c1]
      · rw [e];unfold qP;rw [if_pos hok];exact Ev.now _
    | cons s r ih =>
      intro pre hp hok;have hlen:pre.length+1≤l.length:=by rw [hp];simp
      have hrd:gS l (pre.length:Int)=s:=by rw [hp];exact rdS _ _ _
      have c1:(pre.length:Int)<(l.length:Int):=by omega
      have c2:(0:Int)≤(pre.length:Int):=by omega
      have hw:=nx c1 c2 (by omega);have c3:(pre.map (lV n)).length+1≤8796093022208:=by rw [List.length_map];omega
      have ht:=SL.ticks hs (s:=s) (by rw [hp];simp);have bad:okM n s=false→qP n l=([],20):=fun h=>by
        unfold qP;rw [if_neg (by rw [hp,List.all_append,List.all_cons,h];simp)]
      refine Ev.step (fun k=>rfl) ?_;simp only [gM.l0,gM.l0T,decide_eq_true_eq,c1,c2,c3,if_true,hrd,ac7,hw];by_cases g0 : -9223372036854775808≤s.f0+n∧s.f0+n≤9223372036854775807
      · by_cases g1 : -9223372036854775808≤s.f1+n∧s.f1+n≤9223372036854775807
        · simp only [qg _ _ _ g0.1 g0.2,qg _ _ _ g1.1 g1.2,Option.bind_some]
          by_cases t0:okT (s.f0+n)=true
          · by_cases t1:okT (s.f1+n)=true
            · have:=ih (pre++[s]) (by rw [hp];simp) (by rw [List.all_append,hok];simp [okM,t0,t1])
              simp only [t0,t1,decide_true,Bool.not_true,Bool.false_eq_true,if_false];rw [List.map_append] at this;rw [len1 _ s];exact this
            · rw [bad (by simp [okM,t1])]
              simp only [t0,t1,decide_true,Bool.not_true,Bool.not_false,Bool.false_eq_true,if_false,if_true];exact Ev.now _
          · rw [bad (by simp [okM,t0])]
            simp only [t0,decide_true,Bool.not_true,Bool.not_false,Bool.false_eq_true,if_false,if_true];exact Ev.now _
        · have:okT (s.f1+n)=false:=by unfold okT;simp;omega
          rw [bad (by simp [okM,this])];simp only [qg _ _ _ g0.1 g0.2,add_not _ _ _ (show -1099511627776≤s.f1∧s.f1≤1099511627776 by omega) hn g1,Option.bind_some];exact Ev.now _
      · have:okT (s.f0+n)=false:=by unfold okT;simp;omega
        rw [bad (by simp [okM,this])];by_cases g1 : -9223372036854775808≤s.f1+n∧s.f1+n≤9223372036854775807
        · simp only [add_not _ _ _ (show -1099511627776≤s.f0∧s.f0≤1099511627776 by omega) hn g0,qg _ _ _ g1.1 g1.2,Option.bind_some]
          exact Ev.now _
        · simp only [add_not _ _ _ (show -1099511627776≤s.f0∧s.f0≤1099511627776 by omega) hn g0,add_not _ _ _ (show -1099511627776≤s.f1∧s.f1≤1099511627776 by omega) hn g1,Option.bind_some]
          exact Ev.now _
  exact key l [] rfl rfl
theorem abb (p:List Sp) (z:Sp) (h:(p++[z]).length≤4611686018427387904):wq (((p++[z]).length:Int) - 1)=(p.length:Int)∧gS (p++[z]) (p.length:Int)=z:=by
  refine ⟨?_,rdS p [] z⟩;rw [je (by omega) (by omega)];simp
theorem afi (k:Nat) (l:List Sp) (h:l.length≤4611686018427387904):iE.f k l=some (⟨(wY l).1,(wY l).2.1⟩,(wY l).2.2):=by
  rcases List.eq_nil_or_concat l with rfl | ⟨p,z,rfl⟩
  · simp [iE.f,wY]
  · have e:p.concat z=p++[z]:=by simp
    rw [e] at h ⊢;obtain ⟨w,r⟩:=abb p z h;have c0:¬ ((p++[z]).length:Int)=0:=by simp only [List.length_append,List.length_singleton];omega
    have c1:(0:Int)<((p++[z]).length:Int):=by omega
    have c2:(p.length:Int)<((p++[z]).length:Int):=by simp only [List.length_append,List.length_singleton];omega
    have c3:(0:Int)≤(p.length:Int):=by omega
    have hg:(p++[z]).getLast? = some z:=by simp
    simp only [iE.f,decide_eq_true_eq,c0,c1,w,c2,c3,r,if_true,if_false];unfold wY;rw [hg];cases p <;> simp [gS]
theorem abd (k:Nat) (a b:List Sp) (h:a.length≤4611686018427387904):iC.f k a b=some (j6 a b):=by
  rcases List.eq_nil_or_concat a with rfl | ⟨p,z,rfl⟩
  · simp [iC.f,j6]
  · have e:p.concat z=p++[z]:=by simp
    rw [e] at h ⊢;obtain ⟨w,r⟩:=abb p z h;have c0:¬ ((p++[z]).length:Int)=0:=by simp only [List.length_append,List.length_singleton];omega
    have c2:(p.length:Int)<((p++[z]).length:Int):=by simp only [List.length_append,List.length_singleton];omega
    have c3:(0:Int)≤(p.length:Int):=by omega
    simp only [iC.f,decide_eq_true_eq,c0,w,c2,c3,r,if_true,if_false];cases b with
    | nil=>simp [j6]
    | cons s q =>
      have:¬ (((s :: q).length:Int)=0):=by simp;omega
      have c1:(0:Int)<((s :: q).length:Int):=by simp
      rw [if_neg this,if_pos c1];simp [j6,gS]
end Go.Proofs.YtongeknogcboiaaGreat.Q
namespace Go.Proofs.YtongeknogcboiaaGreat.Q
set_option linter.unusedVariables false
set_option linter.unusedSimpArgs false
open Go.RowKit Go.Proofs.YtongeknogcboiaaGreatW.fP Go.Proofs.YtongeknogcboiaaGreatW.iD M R P
section
variable {p c:Int} {core:List (List Sp)} {odd:List Gn}
theorem agz (k:Nat) (a b:Int):cmp_Compare_int.f k a b=some (if a<b then -1 else if a>b then 1 else 0):=by
  unfold cmp_Compare_int.f;by_cases h1:a<b
  · simp [cmp_isNaN_int.f,h1]
  · by_cases h2:a>b
    · simp [cmp_isNaN_int.f,h1,h2]
    · simp [cmp_isNaN_int.f,h1,h2]
theorem Ev.shift {α:Type} {g:Nat→Option α} {r:α} (h:Ev g r):Ev (fun k=>g (k+1)) r:=let ⟨K,h⟩:=h;⟨K,fun k hk=>h (k+1) (by omega)⟩
theorem abe {a b:Int} (ha : -4611686018427387904≤a∧a≤4611686018427387904) (hb:0<b) : -4611686018427387904≤a / b∧a / b≤4611686018427387904:=by
  constructor
  · refine (Int.le_ediv_iff_mul_le hb).2 ?_
    have:(-4611686018427387904:Int)*b ≤ -4611686018427387904*1:=Int.mul_le_mul_of_nonpos_left (by omega) (by omega);omega
  · rcases Int.lt_or_le a 0 with h | h
    · have:=Int.ediv_neg_of_neg_of_pos h hb;omega
    · have:=Int.ediv_le_self b h;omega
theorem ug (x:Int) (h0:0≤x) (h1:x<18446744073709551616):IntKind.wrap .u64 (BitVec.ofInt 64 x &&& BitVec.ofInt 64 4294967295).toNat=x % 4294967296:=aea x h0 h1
end
section
variable {p c:Int} {core:List (List Sp)} {odd:List Gn}
theorem abf (k:Nat) (a:Int) (l:List Sp) (b:Int):jq.f k a l b=some (if a<b then -1 else if a>b then 1 else 0):=by
  unfold jq.f;rw [agz];rfl
end
variable [Inhabited WT]
variable {p c:Int} {core:List (List Sp)} {odd:List Gn}
theorem aaY (lo hi:Nat) (h:hi≤4611686018427387903) (hl:lo≤hi):wq (Int.fdiv (wC .u64 (wq ((lo:Int)+(hi:Int)))) 2)=(((lo+hi) / 2:Nat):Int):=by
  rw [je (n:=(lo:Int)+hi) (by omega) (by omega),aag];have:IntKind.u64.wrap ((lo:Int)+hi)=(lo:Int)+hi:=by
    simp only [IntKind.wrap,IntKind.bits,IntKind.signed];simp;omega
  rw [this,Int.fdiv_eq_ediv_of_nonneg _ (by omega),je (by omega) (by omega)];omega
theorem uh (h:SF p c core odd) (i:Int):∃ r,Ev (fun k=>iq.f k p c core odd i) r∧afd odd i r:=by
  have hn:odd.length≤6000:=h.hlo;simp only [iq.f,abf,Option.bind_some,decide_eq_true_eq];have key:∀ (d lo hi:Nat),hi - lo=d→lo≤hi→hi≤odd.length→(∀ j (hj:j<odd.length),j<lo→odd[j].f0<i)→(∀ j (hj:j<odd.length),hi≤j→i≤odd[j].f0) →
      ∃ r,Ev (fun k=>iq.l0 (fun y=>if y<(odd.length:Int) then if 0≤y then if y<(odd.length:Int) then some (y,decide ((if (gG odd y).f0<i then (-1:Int) else if (gG odd y).f0>i then 1 else 0)=0)) else none else none else some (y,false)) odd i k (lo:Int) (hi:Int)) r∧afd odd i r:=by
    intro d;induction d using Nat.strongRecOn with
    | ind d ih =>
      intro lo hi hd hle hhn hlow hhigh;by_cases hlt:lo<hi
      · have c1:(lo:Int)<(hi:Int):=by omega
        have hm:=aaY lo hi (by omega) hle;have hmid:(lo+hi) / 2<odd.length:=by omega
        have hrd:=rdG odd ((lo+hi) / 2) hmid;have c2:(0:Int)≤(((lo+hi) / 2:Nat):Int):=by omega
        have c3:(((lo+hi) / 2:Nat):Int)<(odd.length:Int):=by omega
        have hw:wq ((((lo+hi) / 2:Nat):Int)+1)=(((lo+hi) / 2+1:Nat):Int):=by rw [je (by omega) (by omega)];simp
        by_cases t:odd[(lo+hi) / 2].f0<i
        · obtain ⟨r,r1,r2⟩:=ih (hi - ((lo+hi) / 2+1)) (by omega) ((lo+hi) / 2+1) hi rfl (by omega) hhn (fun j hj h'=>by
            rcases Nat.lt_or_ge j ((lo+hi) / 2) with g | g
            · have:=w9 h.hup hmid g;omega
            · have:j=(lo+hi) / 2:=by omega
              subst this;exact t) hhigh
          refine ⟨r,Ev.step (fun k=>rfl) ?_,r2⟩;simp only [iq.l0,iq.l0T,decide_eq_true_eq,c1,hm,c2,c3,hrd,abf,t,Option.bind_some,hw,if_true];exact Ev.yes (by omega) r1
        · obtain ⟨r,r1,r2⟩:=ih ((lo+hi) / 2 - lo) (by omega) lo ((lo+hi) / 2) rfl (by omega) (by omega) hlow (fun j hj h'=>by
            rcases Nat.lt_or_ge ((lo+hi) / 2) j with g | g
            · have:=w9 h.hup hj g;omega
            · have:j=(lo+hi) / 2:=by omega
              subst this;omega)
          refine ⟨r,Ev.step (fun k=>rfl) ?_,r2⟩;have hneg:¬ (if odd[(lo+hi) / 2].f0<i then (-1:Int) else if odd[(lo+hi) / 2].f0>i then 1 else 0)<0:=by rw [if_neg t];split <;> omega
          simp only [iq.l0,iq.l0T,decide_eq_true_eq,c1,hm,c2,c3,hrd,abf,Option.bind_some,hneg,if_true,if_false];exact r1
      · have he:lo=hi:=by omega
        subst he;have c1:¬ (lo:Int)<(lo:Int):=by omega
        by_cases hlast:lo<odd.length
        · have hx:=hhigh lo hlast (by omega)
          refine ⟨((lo:Int),decide (odd[lo].f0=i)),Ev.step (f:=fun _=>some ((lo:Int),decide (odd[lo].f0=i))) (fun k => ?_) (Ev.now _),?_⟩
          · have c2:(lo:Int)<(odd.length:Int):=by omega
            have c3:(0:Int)≤(lo:Int):=by omega
            have c4:¬ odd[lo].f0<i:=by omega
            simp only [iq.l0,iq.l0T,decide_eq_true_eq,c1,c2,c3,rdG odd lo hlast,c4,if_true,if_false];by_cases g:odd[lo].f0>i
            · have:¬ odd[lo].f0=i:=by omega
              simp [g,this]
            · have:odd[lo].f0=i:=by omega
              simp [g,this]
          · refine ⟨by omega,by show (lo:Int)≤_;omega,fun j hj hl=>hlow j hj (by simp only at hl;omega),fun j hj hl=>hhigh j hj (by simp only at hl;omega),fun e=>⟨by simpa using hlast,by simpa using e⟩,fun e => ?_⟩
            rw [pq];intro g hg;obtain ⟨j,hj,rfl⟩:=List.getElem_of_mem hg;have e':¬ odd[lo].f0=i:=by simpa using e
            rcases Nat.lt_or_ge j lo with g | g
            · have:=hlow j hj g;omega
            · rcases Nat.lt_or_ge lo j with g2 | g2
              · have:=w9 h.hup hj g2;omega
              · have:j=lo:=by omega
                subst this;exact e'
        · refine ⟨((lo:Int),false),Ev.step (f:=fun _=>some ((lo:Int),false)) (fun k => ?_) (Ev.now _),?_⟩
          · have c2:¬ (lo:Int)<(odd.length:Int):=by omega
            simp only [iq.l0,iq.l0T,decide_eq_true_eq,c1,c2,if_false]
          · refine ⟨by omega,by show (lo:Int)≤_;omega,fun j hj hl=>hlow j hj (by simp only at hl;omega),fun j hj hl=>hhigh j hj (by simp only at hl;omega),(fun e=>by cases e),fun e => ?_⟩
            rw [pq];intro g hg;obtain ⟨j,hj,rfl⟩:=List.getElem_of_mem hg;have:=hlow j hj (by omega);omega
  exact key _ 0 odd.length rfl (by omega) (Nat.le_refl _) (fun j hj h=>by omega) (fun j hj h=>by omega)
theorem uj (a b:Int) (ha : -4611686018427387904≤a∧a≤4611686018427387904) (hb:0<b∧b≤4611686018427387904):Ev (fun k=>iH.f k a b) (a / b,a % b,0):=by
  have h1:=Int.emod_nonneg a (show b≠0 by omega);have h2:=Int.emod_lt_of_pos a hb.1;have h3:=Int.mul_ediv_add_emod a b;have hq:=abe ha hb.1;have b0:¬ b=0:=by omega
  have b1:¬ b = -1:=by omega
  have bn:decide (b<0)=false:=by simp;omega
  refine Ev.congr (f:=fun _=>some (a / b,a % b,0)) (fun k => ?_) (Ev.now _);unfold iH.f;rw [if_neg (by simpa using b0),if_neg (by simpa using b1),if_neg b0,if_neg b0];simp only [bn,Bool.not_eq_true',decide_eq_false_iff_not];have ht:=Int.tmod_add_mul_tdiv a b;rcases Int.lt_or_le a 0 with hneg | hpos
  · by_cases hz:Int.tmod a b=0
    · have hdvd:b ∣ a:=Int.dvd_of_tmod_eq_zero hz
      have e1:a % b=0:=Int.emod_eq_zero_of_dvd hdvd;have e2:Int.tdiv a b=a / b:=by
        have:b*Int.tdiv a b=b*(a / b):=by rw [hz] at ht;omega
        exact Int.eq_of_mul_eq_mul_left (by omega) this
      simp only [hz,e2,e1,not_true,if_false];rw [je (n:=a / b) (by omega) (by omega)]
    · have t1:Int.tmod a b≤0:=(by have h0:=Int.tmod_nonneg b (show 0 ≤ -a by omega);rw [Int.neg_tmod] at h0;omega)
      have t2 : -b<Int.tmod a b:=by
        have:=Int.lt_tmod_of_pos a hb.1;omega
      have e2:Int.tdiv a b=a / b+1:=by
        have k1:b*(a / b - Int.tdiv a b)=Int.tmod a b - a % b:=by rw [Int.mul_sub];omega
        have k2:a / b - Int.tdiv a b<0:=by
          rcases Int.lt_or_le (a / b - Int.tdiv a b) 0 with g | g
          · exact g
          · have:0≤b*(a / b - Int.tdiv a b):=Int.mul_nonneg (by omega) g
            omega
        have k3 : -2<a / b - Int.tdiv a b:=by
          rcases Int.lt_or_le (-2) (a / b - Int.tdiv a b) with g | g
          · exact g
          · have:b*(a / b - Int.tdiv a b)≤b*(-2):=Int.mul_le_mul_of_nonneg_left g (by omega)
            omega
        omega
      have e1:Int.tmod a b+b=a % b:=by
        have:b*Int.tdiv a b=b*(a / b)+b:=by rw [e2,Int.mul_add,Int.mul_one]
        omega
      have a1:Int.tmod a b<0:=by omega
      simp only [hz,a1,e2,e1,not_false_eq_true,if_true,decide_true];rw [je (n:=a / b+1) (by omega) (by omega),je (n:=a / b+1 - 1) (by omega) (by omega),je (n:=a % b) (by omega) (by omega)];simp
  · have e1:Int.tmod a b=a % b:=Int.tmod_eq_emod_of_nonneg hpos
    have e2:Int.tdiv a b=a / b:=Int.tdiv_eq_ediv_of_nonneg hpos;have a1:¬ a % b<0:=by omega
    simp only [e1,e2,a1,decide_false,beq_self_eq_true];rw [je (n:=a / b) (by omega) (by omega)];simp
theorem yM (n:Int):wC .u64 n=n % 18446744073709551616:=by rw [aag,wrap_u64]
theorem vU {n:Int} (h₀:0≤n) (h₁:n<18446744073709551616):wC .u64 n=n:=by rw [yM];omega
theorem aef (k:Nat) (a b:Int) (ha:0≤a∧a<18446744073709551616) (hb:0≤b∧b<18446744073709551616):bits_Mul64.f k a b=some (a*b / 18446744073709551616,a*b % 18446744073709551616):=by
  obtain ⟨a1,ha1⟩:∃ a1,a / 4294967296=a1:=⟨_,rfl⟩;obtain ⟨a0,ha0⟩:∃ a0,a % 4294967296=a0:=⟨_,rfl⟩;obtain ⟨b1,hb1⟩:∃ b1,b / 4294967296=b1:=⟨_,rfl⟩;obtain ⟨b0,hb0⟩:∃ b0,b % 4294967296=b0:=⟨_,rfl⟩;have ea:a=a1*4294967296+a0:=by omega
  have eb:b=b1*4294967296+b0:=by omega
  have x1:=yH a0 b0 (by omega) (by omega) (by omega) (by omega);have y1:=yH a1 b0 (by omega) (by omega) (by omega) (by omega);have z1:=yH a0 b1 (by omega) (by omega) (by omega) (by omega);have v1:=yH a1 b1 (by omega) (by omega) (by omega) (by omega);have id:a*b=a1*b1*18446744073709551616+(a1*b0+a0*b1)*4294967296+a0*b0:=by rw [ea,eb];grind
  have hN:a*b<18446744073709551616*18446744073709551616:=by
    have:=Int.mul_le_mul (show a≤18446744073709551615 by omega) (show b≤18446744073709551615 by omega) hb.1 (by omega);omega
  have fd:∀ x:Int,Int.fdiv x 4294967296=x / 4294967296:=fun x=>Int.fdiv_eq_ediv_of_nonneg _ (by omega);unfold bits_Mul64.f;simp only [fd];rw [ug a ha.1 ha.2,ug b hb.1 hb.2,ha1,ha0,hb1,hb0];rw [yM (a*b),id];rw [id] at hN;obtain ⟨x,hx⟩:∃ x,a0*b0=x:=⟨_,rfl⟩;obtain ⟨y,hy⟩:∃ y,a1*b0=y:=⟨_,rfl⟩;obtain ⟨z,hz⟩:∃ z,a0*b1=z:=⟨_,rfl⟩;obtain ⟨v,hv⟩:∃ v,a1*b1=v:=⟨_,rfl⟩;simp only [hx,hy,hz,hv] at x1 y1 z1 v1 hN ⊢;rw [vU (n:=x) (by omega) (by omega),vU (n:=y) (by omega) (by omega),vU (n:=z) (by omega) (by omega),vU (n:=v) (by omega) (by omega)];rw [vU (n:=y+x / 4294967296) (by omega) (by omega)];rw [ug (y+x / 4294967296) (by omega) (by omega)];rw [vU (n:=(y+x / 4294967296) % 4294967296+z) (by omega) (by omega)];rw [vU (n:=v+(y+x / 4294967296) / 4294967296) (by omega) (by omega)];rw [vU (n:=v+(y+x / 4294967296) / 4294967296+((y+x / 4294967296) % 4294967296+z) / 4294967296) (by omega) (by omega)];congr 1;refine Prod.ext ?_ rfl;show v+(y+x / 4294967296) / 4294967296+((y+x / 4294967296) % 4294967296+z) / 4294967296=(v*18446744073709551616+(y+z)*4294967296+x) / 18446744073709551616;omega
theorem ac9 (k:Nat) (a:Int) (h1 : -9223372036854775808≤a) (h2:a≤9223372036854775807):jg.f k a=some (if a<0 then -a else a):=by
  simp only [jg.f,decide_eq_true_eq,yM];by_cases h:a<0
  · rw [if_pos h,if_pos h]
    congr 1
    omega
  · rw [if_neg h,if_neg h]
    congr 1
    omega
theorem acI (k:Nat) (n:Int) (m:Bool) (h:0≤n∧n<18446744073709551616):iU.f k n m=some (if m=true then (if n≤9223372036854775808 then (-n,0) else (0,10)) else (if n≤9223372036854775807 then (n,0) else (0,10))):=by
  cases m with
  | true =>
    simp only [iU.f,decide_eq_true_eq,if_true];by_cases g:n≤9223372036854775808
    · have:wq (wC .u64 (0 - n)) = -n:=by rw [sP,yM];unfold wrap64;omega
      rw [if_pos g,if_pos g,this]
    · simp [g]
  | false =>
    simp only [iU.f,decide_eq_true_eq];by_cases g:n≤9223372036854775807
    · have:wq n=n:=je (by omega) g
      simp [g,this]
    · simp [g]
theorem afj (a b:Int) (ha : -9223372036854775808≤a∧a≤9223372036854775807) (hb:0≤b∧b≤9223372036854775807):Ev (fun k=>jB.f k a b) (abI a b):=by
  obtain ⟨n,hn⟩:∃ n,(if a<0 then -a else a)=n:=⟨_,rfl⟩;have hn0:0≤n∧n≤9223372036854775808:=by split at hn <;> omega
  have hb0:(if b<0 then -b else b)=b:=by rw [if_neg (by omega)]
  have hm:n*b=if a<0 then -(a*b) else a*b:=by
    rw [← hn];split
    · rw [Int.neg_mul]
    · rfl
  have hp:0≤n*b:=Int.mul_nonneg hn0.1 hb.1;have hbd:(decide (b<0))=false:=by simp;omega
  refine Ev.congr (f:=fun _=>some (abI a b)) (fun k => ?_) (Ev.now _);unfold jB.f;simp only [ac9 k a ha.1 ha.2,ac9 k b (by omega) hb.2,hn,hb0,Option.bind_some,aef k n b (by omega) (by omega),hbd,Bool.not_eq_true',decide_eq_false_iff_not];by_cases hhi:n*b / 18446744073709551616=0
  · have hlt:n*b<18446744073709551616:=by omega
    have hmod:n*b % 18446744073709551616=n*b:=by omega
    simp only [hhi,hmod,not_true,if_false];rw [acI k (n*b) _ ⟨hp,hlt⟩,Option.bind_some];by_cases hs:a<0
    · rw [if_pos hs] at hm
      simp only [hs,decide_true,hm];unfold abI;by_cases hz : -(a*b)≤9223372036854775808
      · simp [hz,show -9223372036854775808≤a*b∧a*b≤9223372036854775807 by omega]
      · simp [hz,show ¬ (-9223372036854775808≤a*b∧a*b≤9223372036854775807) by omega]
    · rw [if_neg hs] at hm
      simp only [hs,decide_false,hm];unfold abI;by_cases hz:a*b≤9223372036854775807
      · simp [hz,show -9223372036854775808≤a*b by omega]
      · simp [hz]
  · have:abI a b=(0,10):=by
      unfold abI;rw [if_neg];split at hm <;> omega
    rw [this,if_pos hhi]
end Go.Proofs.YtongeknogcboiaaGreat.Q

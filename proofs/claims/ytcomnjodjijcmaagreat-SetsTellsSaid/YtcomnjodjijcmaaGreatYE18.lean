/- Lemmas for laws of chapter 7: what the functions that they reach compute. No condition of its own. -/
import Derived.Test.YtcomnjodjijcmaaGreatYE17
import Derived.Test.YtcomnjodjijcmaaGreatYE2
import Derived.Deep.Slices
import Derived.Test.YtcomnjodjijcmaaGreatYE12
namespace Go.Proofs.YtcomnjodjijcmaaGreat.P
set_option linter.unusedVariables false
set_option linter.unusedSimpArgs false
open Go.RowKit Go.ChangeShapes Go.WideShapes Go.Deep Go.Proofs.YtcomnjodjijcmaaGreatW.dz Go.Proofs.YtcomnjodjijcmaaGreatW.eD
theorem aah {cs:List Value} (h:cs.length=2):∃ a b,cs=[a,b]:=by
  match cs,h with
  | [a,b],_=>exact ⟨a,b,rfl⟩
theorem aai {cs:List Value} (h:cs.length=4):∃ a b c d,cs=[a,b,c,d]:=by
  match cs,h with
  | [a,b,c,d],_=>exact ⟨a,b,c,d,rfl⟩
theorem wM {T:Type} (k:Kd T) {H:Type} {enc:TypeId × Value→H} {w:World} {base:Nat} {held:Bool} {t e:TypeId} {fuel:Nat} {cs:List Value} {x:DataW H × List MemPlace}
    (ht:Tryz.prog.underlying t=some (.slice e)) (hn:Tryz.prog.cellsOf e=k.sz) (Q:T→Prop)
    (op:∀ fuel cs x,DataW.trod enc Tryz.prog w base (fun _=>true) held fuel e cs=some x→∃ v,k.K w v cs∧Q v)
    (h:DataW.trod enc Tryz.prog w base (fun _=>true) held fuel t cs=some x) :
    ∃ (a:Option Addr) (cap:Nat) (l:List T),cs=[.slice a l.length cap]∧l.length≤cap∧Kd.C k w a l.length l∧(∀ s∈l,Q s)∧l.length≤9223372036854775807:=by
  rcases open_slice ht h with ⟨hc,_⟩ | ⟨a,len,cap,m,n,D,Pl,hc,hb,hl,hm,hmm,hx,hi⟩
  · exact ⟨none,0,[],by rw [hc];rfl,Nat.le_refl _,⟨rfl,by simp,fun h=>absurd h (by simp)⟩,by simp,by simp⟩
  · have hlm:len≤m:=by rw [hmm];simpa using hl
    have hk:∀ i,i<len→∃ v cs',k.K w v cs'∧Q v∧∀ j u,cs'[j]? = some u→w.cell? (a.add (i*k.sz+j))=some u:=by
      intro i hi';obtain ⟨cs',h1,h2⟩:=hi i (by omega);rw [hn] at h1;obtain ⟨_,hlen,hcell⟩:=World.cells?_some h1;obtain ⟨v,v1,v2⟩:=op _ _ _ h2;refine ⟨v,cs',v1,v2,fun j u hu => ?_⟩;have hj:j<k.sz:=by rw [← hlen];exact (List.getElem?_eq_some_iff.1 hu).1
      have:=hcell j hj;rw [Deep.add_add] at this;rw [this,hu]
    have hmax:len≤9223372036854775807:=by unfold maxLen at hm;omega
    suffices key:∀ q,q≤len→∃ l:List T,l.length=q∧(∀ j s,l[j]? = some s→∃ cs',k.K w s cs'∧∀ i u,cs'[i]? = some u→w.cell? (a.add (j*k.sz+i))=some u)∧∀ s∈l,Q s by
      obtain ⟨l,rfl,hl2,hfit⟩:=key len (Nat.le_refl _);refine ⟨some a,cap,l,hc,hl,⟨rfl,hmax,fun _=>⟨a,rfl,fun j s hj => ?_⟩⟩,hfit,hmax⟩;obtain ⟨cs',g1,g2⟩:=hl2 j s hj;exact ⟨cs',k.jY g1,g1,g2⟩
    intro q;induction q with
    | zero=>exact fun _=>⟨[],rfl,fun j s h=>by simp at h,by simp⟩
    | succ q ih =>
      intro hk';obtain ⟨l,hl1,hl2,hl3⟩:=ih (by omega);obtain ⟨s,cs',h0,h1,h2⟩:=hk q (by omega);refine ⟨l++[s],by simp [hl1],fun j t hj => ?_,fun t ht => ?_⟩
      · by_cases hjk:j<l.length
        · rw [List.getElem?_append_left hjk] at hj;exact hl2 j t hj
        · rw [List.getElem?_append_right (by omega)] at hj
          have:j - l.length=0:=by
            by_cases e:j - l.length=0
            · exact e
            · rw [List.getElem?_eq_none (by simp;omega)] at hj;cases hj
          rw [this] at hj;simp at hj;subst hj;have:j=q:=by omega
          subst this;exact ⟨cs',h0,h2⟩
      · simp at ht
        rcases ht with ht | rfl
        · exact hl3 t ht
        · exact h1
section
variable {H:Type} {enc:TypeId × Value→H} {w:World} {base:Nat} {held:Bool} {fuel:Nat} {cs:List Value} {x:DataW H × List MemPlace}
theorem lT (h:DataW.trod enc Tryz.prog w base (fun _=>true) held fuel 3 cs=some x):∃ n,cs=[.int .i64 n]∧fits n:=by
  obtain ⟨n,e0,_,w0⟩:=DataW.trod_int Tryz.underlying3 h;exact ⟨n,e0,w0⟩
theorem aeC (h:DataW.trod enc Tryz.prog w base (fun _=>true) held fuel 42 cs=some x):∃ s:Sp,k42.K w s cs∧qx s:=by
  obtain ⟨xs,n,_,_,hl,hxs,hf⟩:=DataW.trod_struct Tryz.underlying42 h;have e9:Tryz.prog.cellsOf 42=2:=by kernel_rfl
  rw [e9] at hl;have hl2:cs.length=2:=hl;clear hl e9;obtain ⟨v0,v1,rfl⟩:=aah hl2;have g0:DataW.trod enc Tryz.prog w base (fun _=>true) held n 3 (List.take (Tryz.prog.cellsOf 3) (List.drop 0 [v0,v1]))=xs[0]? := hf 0 _ rfl;rw [show Tryz.prog.cellsOf 3=1 by kernel_rfl] at g0;have g1:DataW.trod enc Tryz.prog w base (fun _=>true) held n 3 (List.take (Tryz.prog.cellsOf 3) (List.drop 1 [v0,v1]))=xs[1]? := hf 1 _ rfl;rw [show Tryz.prog.cellsOf 3=1 by kernel_rfl] at g1;cases hx0:xs[0]? with
  | none=>have:=List.getElem?_eq_none_iff.1 hx0;rw [hxs] at this;exact absurd this (by decide)
  | some y0 =>
    cases hx1:xs[1]? with
    | none=>have:=List.getElem?_eq_none_iff.1 hx1;rw [hxs] at this;exact absurd this (by decide)
    | some y1 =>
      rw [hx0] at g0;rw [hx1] at g1;obtain ⟨a,ea,wa⟩:=lT g0;obtain ⟨b,eb,wb⟩:=lT g1;have aa:[v0]=[.int .i64 a]:=ea;have eb':[v1]=[.int .i64 b]:=eb;injection aa with aa
      injection eb' with eb'
      subst aa eb';exact ⟨⟨a,b⟩,ae7 w ⟨a,b⟩,wa,wb⟩
theorem x9 (h:DataW.trod enc Tryz.prog w base (fun _=>true) held fuel 37 cs=some x):∃ (a:Option Addr) (cap:Nat) (l:List Sp),cs=[.slice a l.length cap]∧l.length≤cap∧Kd.C k42 w a l.length l∧(∀ s∈l,qx s)∧l.length≤9223372036854775807 :=
  wM k42 Tryz.underlying37 (by kernel_rfl) qx (fun _ _ _ g=>aeC g) h
theorem aa7 (h:DataW.trod enc Tryz.prog w base (fun _=>true) held fuel 37 cs=some x):∃ l:List Sp,(Kd.slice 42 k42).K w l cs∧((∀ s∈l,qx s)∧l.length≤9223372036854775807):=by
  obtain ⟨a,cap,l,rfl,h1,h2,h3,h4⟩:=x9 h;exact ⟨l,⟨a,cap,rfl,h1,h2⟩,h3,h4⟩
theorem aa8 (h:DataW.trod enc Tryz.prog w base (fun _=>true) held fuel 22 cs=some x):∃ (a:Option Addr) (cap:Nat) (l:List (List Sp)),cs=[.slice a l.length cap]∧l.length≤cap∧Kd.C (Kd.slice 42 k42) w a l.length l∧(∀ s∈l,(∀ z∈s,qx z)∧s.length≤9223372036854775807)∧l.length≤9223372036854775807 :=
  wM (Kd.slice 42 k42) Tryz.underlying22 (by kernel_rfl) _ (fun _ _ _ g=>aa7 g) h
def yc (g:S44):Prop:=fits g.f0∧(∀ z∈g.f1,qx z)∧g.f1.length≤9223372036854775807
theorem aeD (h:DataW.trod enc Tryz.prog w base (fun _=>true) held fuel 44 cs=some x):∃ g:S44,k44.K w g cs∧yc g:=by
  obtain ⟨xs,n,_,_,hl,hxs,hf⟩:=DataW.trod_struct Tryz.underlying44 h;have e9:Tryz.prog.cellsOf 44=2:=by kernel_rfl
  rw [e9] at hl;have hl2:cs.length=2:=hl;clear hl e9;obtain ⟨v0,v1,rfl⟩:=aah hl2;have g0:DataW.trod enc Tryz.prog w base (fun _=>true) held n 3 (List.take (Tryz.prog.cellsOf 3) (List.drop 0 [v0,v1]))=xs[0]? := hf 0 _ rfl;rw [show Tryz.prog.cellsOf 3=1 by kernel_rfl] at g0;have g1:DataW.trod enc Tryz.prog w base (fun _=>true) held n 37 (List.take (Tryz.prog.cellsOf 37) (List.drop 1 [v0,v1]))=xs[1]? := hf 1 _ rfl;rw [show Tryz.prog.cellsOf 37=1 by kernel_rfl] at g1;cases hx0:xs[0]? with
  | none=>have:=List.getElem?_eq_none_iff.1 hx0;rw [hxs] at this;exact absurd this (by decide)
  | some y0 =>
    cases hx1:xs[1]? with
    | none=>have:=List.getElem?_eq_none_iff.1 hx1;rw [hxs] at this;exact absurd this (by decide)
    | some y1 =>
      rw [hx0] at g0;rw [hx1] at g1;obtain ⟨a,ea,wa⟩:=lT g0;obtain ⟨b,cap,l,eb,l1,l2,l3,l4⟩:=x9 g1;have aa:[v0]=[.int .i64 a]:=ea;have eb':[v1]=[.slice b l.length cap]:=eb;injection aa with aa
      injection eb' with eb'
      subst aa eb';exact ⟨⟨a,l⟩,ae8 w ⟨a,l⟩ l1 l2,wa,l3,l4⟩
theorem acV (h:DataW.trod enc Tryz.prog w base (fun _=>true) held fuel 23 cs=some x):∃ (a:Option Addr) (cap:Nat) (l:List S44),cs=[.slice a l.length cap]∧l.length≤cap∧Kd.C k44 w a l.length l∧(∀ s∈l,yc s)∧l.length≤9223372036854775807 :=
  wM k44 Tryz.underlying23 (by kernel_rfl) yc (fun _ _ _ g=>aeD g) h
structure aa9 (p c:Int) (core:List (List Sp)) (odd:List S44):Prop where
  fp:fits p
  fc:fits c
  ag0:∀ l∈core,(∀ z∈l,qx z)∧l.length≤9223372036854775807
  ahV:∀ g∈odd,yc g
  lc:core.length≤9223372036854775807
  lo:odd.length≤9223372036854775807
set_option maxRecDepth 200000 in
theorem vC {b0:Nat} {v:Value} {d:DataW H} {ps:List MemPlace} (hv:Value.okWide Tryz.prog w .any b0 25 v) (h:DataW.Trod enc Tryz.prog w base (fun _=>true) held 25 v d ps) :
    ∃ (p c:Int) (A2:Option Addr) (c2:Nat) (core:List (List Sp)) (A3:Option Addr) (c3:Nat) (odd:List S44),v=.agg #[.int .i64 p,.int .i64 c,.slice A2 core.length c2,.slice A3 odd.length c3] ∧
      Kd.C (Kd.slice 42 k42) w A2 core.length core∧core.length≤c2∧Kd.C k44 w A3 odd.length odd∧odd.length≤c3∧aa9 p c core odd:=by
  have hq:=okWide_struct (P:=Tryz.prog) (w:=w) (r:=.any) (base:=b0) (t:=25) (v:=v) Tryz.underlying25;have hq2:=hq hv;obtain ⟨cs,rfl,hsz⟩:=hq2;obtain ⟨fuel,h⟩:=h;obtain ⟨xs,n,_,_,hl,hxs,hf⟩:=DataW.trod_struct Tryz.underlying25 h;have e9:Tryz.prog.cellsOf 25=4:=by kernel_rfl
  rw [e9] at hl;have hl2:cs.toList.length=4:=hl;clear hl e9;obtain ⟨l⟩:=cs;obtain ⟨v0,v1,v2,v3,rfl⟩:=aai hl2;have g0:DataW.trod enc Tryz.prog w base (fun _=>true) held n 3 (List.take (Tryz.prog.cellsOf 3) (List.drop 0 [v0,v1,v2,v3]))=xs[0]? := hf 0 _ rfl;rw [show Tryz.prog.cellsOf 3=1 by kernel_rfl] at g0;have g1:DataW.trod enc Tryz.prog w base (fun _=>true) held n 3 (List.take (Tryz.prog.cellsOf 3) (List.drop 1 [v0,v1,v2,v3]))=xs[1]? := hf 1 _ rfl;rw [show Tryz.prog.cellsOf 3=1 by kernel_rfl] at g1;have g2:DataW.trod enc Tryz.prog w base (fun _=>true) held n 22 (List.take (Tryz.prog.cellsOf 22) (List.drop 2 [v0,v1,v2,v3]))=xs[2]? := hf 2 _ rfl;rw [show Tryz.prog.cellsOf 22=1 by kernel_rfl] at g2;have g3:DataW.trod enc Tryz.prog w base (fun _=>true) held n 23 (List.take (Tryz.prog.cellsOf 23) (List.drop 3 [v0,v1,v2,v3]))=xs[3]? := hf 3 _ rfl;rw [show Tryz.prog.cellsOf 23=1 by kernel_rfl] at g3;have hx:∀ j,j<4→∃ y,xs[j]? = some y:=fun j hj=>⟨_,List.getElem?_eq_getElem (by rw [hxs];exact hj)⟩;obtain ⟨y0,e0⟩:=hx 0 (by omega);obtain ⟨y1,e1⟩:=hx 1 (by omega);obtain ⟨y2,e2⟩:=hx 2 (by omega);obtain ⟨y3,e3⟩:=hx 3 (by omega);rw [e0] at g0;rw [e1] at g1;rw [e2] at g2;rw [e3] at g3;obtain ⟨p,ep,wp⟩:=lT g0;obtain ⟨c,ec,wc⟩:=lT g1;obtain ⟨A2,c2,core,e2',l1,l2,l3,l4⟩:=aa8 g2;obtain ⟨A3,c3,odd,e3',m1,m2,m3,m4⟩:=acV g3;have ac:[v0]=[.int .i64 p]:=ep;have af:[v1]=[.int .i64 c]:=ec;have aa:[v2]=[.slice A2 core.length c2]:=e2';have ab:[v3]=[.slice A3 odd.length c3]:=e3';injection ac with ac
  injection af with af
  injection aa with aa
  injection ab with ab
  subst ac af aa ab;exact ⟨p,c,A2,c2,core,A3,c3,odd,rfl,l2,l1,m2,m1,⟨wp,wc,l3,m3,l4,m4⟩⟩
end
end Go.Proofs.YtcomnjodjijcmaaGreat.P
namespace Go.Proofs.YtcomnjodjijcmaaGreat.P
set_option linter.unusedVariables false
set_option linter.unusedSimpArgs false
open Go.RowKit Go.Proofs.YtcomnjodjijcmaaGreatW.dz Go.Proofs.YtcomnjodjijcmaaGreatW.eD
section
theorem afE (pre r:List Sp) (s:Sp):w9 (pre++s :: r) (pre.length:Int)=s:=by simp [w9]
def slB (lo:Int):List Sp→Bool
  | []=>true
  | s :: r=>decide (lo≤s.f0)&&(decide (s.f0≤s.f1)&&(decide (s.f1≤1099511627776)&&slB (s.f1+2) r))
theorem mU {lo:Int} {l:List Sp}:slB lo l=true↔SL lo 1099511627776 l:=by
  induction l generalizing lo with
  | nil=>simp [slB,SL]
  | cons s r ih=>simp [slB,SL,ih]
end
section
def aiC (l:List Sp):Prop:=∀ s∈l,-4611686018427387904≤s.f1∧s.f1≤4611686018427387904
def kindOf (kind:Int) (x y:Bool):Bool:=if kind=1 then x || y else if kind=2 then x&&y else x && !y
end
section
def qP (l:List Sp):Int × Int × Bool :=
  match l.head?,l.getLast? with
  | some s,some z=>(s.f0,z.f1,true)
  | _,_=>(0,0,false)
def jc (a b:List Sp):Bool :=
  match a.getLast?,b.head? with
  | some z,some s=>decide (z.f1<s.f0)
  | _,_=>true
theorem SL.rise {hi:Int}:∀ {l:List Sp} {lo:Int},SL lo hi l→∀ i j (hj:j<l.length) (hij:i<j),(l[i]'(by omega)).f1+2≤l[j].f0
  | [],_,_,_,_,hj,_=>by simp at hj
  | s :: r,lo,h,0,j+1,hj,_=>by
    have:=(SL.ticks h.2.2.2 (List.getElem_mem (by simpa using hj:j<r.length))).1;simpa using this
  | s :: r,lo,h,i+1,j+1,hj,hij=>by
    have:=SL.rise h.2.2.2 i j (by simpa using hj) (by omega);simpa using this
theorem SL.get {lo hi:Int} {l:List Sp} (h:SL lo hi l) (j:Nat) (hj:j<l.length):lo≤l[j].f0∧l[j].f0≤l[j].f1∧l[j].f1≤hi:=SL.ticks h (List.getElem_mem hj)
theorem adA (lo hi:Nat) (h:hi≤4611686018427387903) (hl:lo≤hi):wrap64 ((IntKind.u64.wrap (wrap64 ((lo:Int)+(hi:Int)))) / 2)=(((lo+hi) / 2:Nat):Int):=by
  rw [mR (n:=(lo:Int)+hi) (by omega) (by omega)];have:IntKind.u64.wrap ((lo:Int)+hi)=(lo:Int)+hi:=by
    simp only [IntKind.wrap,IntKind.bits,IntKind.signed];simp;omega
  rw [this,mR (by omega) (by omega)];omega
theorem SL.empty {lo hi:Int} {l:List Sp} (h:SL lo hi l):(∀ x,vL l x=false)→l=[]:=by
  intro hx;cases l with
  | nil=>rfl
  | cons s r=>have:=hx s.f0;rw [kQ] at this;have h2:=h.2.1;simp [h2] at this
end
section
theorem SL.front {lo hi:Int} {p r:List Sp} (h:SL lo hi (p++r)):SL lo hi p:=by
  induction p generalizing lo with
  | nil=>trivial
  | cons s p ih=>exact ⟨h.1,h.2.1,h.2.2.1,ih h.2.2.2⟩
end
section
def eO (n:Int) (s:Sp):Sp:=⟨s.f0+n,s.f1+n⟩
def okT (x:Int):Bool:=decide (-1099511627776≤x)&&decide (x≤1099511627776)
def okM (n:Int) (s:Sp):Bool:=okT (s.f0+n)&&okT (s.f1+n)
def lU (n:Int) (l:List Sp):List Sp × Int:=if l.all (okM n) then (l.map (eO n),0) else ([],20)
theorem sQ {x:Int}:okT x=true ↔ -1099511627776≤x∧x≤1099511627776:=by simp [okT]
theorem qy {n:Int} {s:Sp}:okM n s=true↔(-1099511627776≤s.f0+n∧s.f0+n≤1099511627776)∧(-1099511627776≤s.f1+n∧s.f1+n≤1099511627776):=by simp [okM,sQ]
theorem SL.shift {lo hi:Int} (n:Int):∀ {l:List Sp} {lo:Int},SL lo hi l→SL (lo+n) (hi+n) (l.map (eO n))
  | [],_,_=>trivial
  | s :: r,lo,h=>by
    obtain ⟨h1,h2,h3,h4⟩:=h;refine ⟨by simp only [eO];omega,by simp only [eO];omega,by simp only [eO];omega,?_⟩;have:=SL.shift (lo:=lo) n h4;have e:(eO n s).f1+2=s.f1+2+n:=by simp only [eO];omega
    rw [e];exact this
theorem SL.within {lo' hi' hi:Int}:∀ {l:List Sp} {lo:Int},SL lo hi l→(∀ s∈l,lo'≤s.f0∧s.f1≤hi')→SL lo' hi' l
  | [],_,_,_=>trivial
  | s :: r,lo,h,hb=>by
    obtain ⟨h1,h2,h3,h4⟩:=h;refine ⟨(hb s (by simp)).1,h2,(hb s (by simp)).2,?_⟩;refine SL.within h4 (fun t ht=>⟨?_,(hb t (by simp [ht])).2⟩)
    exact (SL.ticks h4 ht).1
theorem SL.moved {n:Int} {l:List Sp} (h:SL (-1099511627776) 1099511627776 l) (ho:l.all (okM n)=true):SL (-1099511627776) 1099511627776 (l.map (eO n)):=by
  refine SL.within (SL.shift (lo:=0) n h) (fun s hs => ?_)
  obtain ⟨t,ht,rfl⟩:=List.mem_map.1 hs;have:=qy.1 (List.all_eq_true.1 ho t ht);simp only [eO];omega
theorem zI (n:Int) (l:List Sp):(l.map (eO n)).map (eO (-n))=l:=by
  induction l with
  | nil=>rfl
  | cons s r ih =>
    rw [List.map_cons,List.map_cons,ih];congr 1;cases s;simp only [eO];congr 1 <;> omega
end
section
end
section
abbrev Gn:=S44
def kJ:List Sp→Int
  | []=>0
  | s :: _=>s.f0
def kT:List Sp→Int
  | []=>0
  | [s]=>s.f1
  | _ :: t :: r=>kT (t :: r)
theorem abb (l:List Sp) (s:Sp):kT (l++[s])=s.f1:=by
  induction l with
  | nil=>rfl
  | cons a r ih=>cases r with
    | nil=>rfl
    | cons b r=>exact ih
theorem SL.ends {lo hi:Int}:∀ {l:List Sp},SL lo hi l→l≠[]→lo≤kJ l∧kJ l≤kT l∧kT l≤hi
  | [],_,h=>absurd rfl h
  | [s],⟨a,b,c,_⟩,_=>⟨a,b,c⟩
  | s :: t :: r,⟨a,b,c,d⟩,_=>by
    obtain ⟨e1,e2,e3⟩:=SL.ends d (by simp);simp only [kJ,kT] at *;exact ⟨a,by omega,e3⟩
theorem SL.between {lo hi:Int} {l:List Sp} (h:SL lo hi l) {s:Sp} (hs:s∈l):kJ l≤s.f0∧s.f1≤kT l:=by
  induction l generalizing lo with
  | nil=>simp at hs
  | cons a r ih =>
    obtain ⟨h1,h2,h3,h4⟩:=h;cases r with
    | nil=>simp at hs;subst hs;exact ⟨Int.le_refl _,Int.le_refl _⟩
    | cons b r =>
      have e:=h4.ends (by simp);rcases List.mem_cons.1 hs with rfl | hs
      · simp only [kJ,kT] at *;omega
      · have:=ih h4 hs;simp only [kJ,kT] at *;omega
theorem SL.qz {lo hi:Int} {l:List Sp} (h:SL lo hi l) {x:Int} (hx:vL l x=true):kJ l≤x∧x≤kT l:=by
  obtain ⟨s,hs,h1,h2⟩:=vB.1 hx;have:=h.between hs;omega
theorem om (n:Int) (l:List Sp) (h:l≠[]):kJ (l.map (eO n))=kJ l+n:=by
  cases l with
  | nil=>exact absurd rfl h
  | cons s r=>rfl
theorem oo (n:Int):∀ (l:List Sp),l≠[]→kT (l.map (eO n))=kT l+n
  | [],h=>absurd rfl h
  | [s],_=>rfl
  | s :: t :: r,_=>oo n (t :: r) (by simp)
theorem SL.nL {n:Int} {l:List Sp} (h:SL (-1099511627776) 1099511627776 l) (hn:l≠[]):l.all (okM n)=true↔(-1099511627776≤kJ l+n∧kT l+n≤1099511627776):=by
  constructor
  · intro ha
    have hm:=h.moved ha;have:=hm.ends (by simpa using hn);rw [om n l hn,oo n l hn] at this;exact ⟨this.1,this.2.2⟩
  · intro ⟨h1,h2⟩
    rw [List.all_eq_true];intro s hs;have:=h.between hs;have:=h.ticks hs;rw [qy];omega
def iW:List Gn→Int→Option (List Sp)
  | [],_=>none
  | g :: r,i=>if g.f0=i then some g.f1 else iW r i
theorem je {odd:List Gn} {i:Int} {l:List Sp} (h:iW odd i=some l):∃ g∈odd,g.f0=i∧g.f1=l:=by
  induction odd with
  | nil=>cases h
  | cons g r ih =>
    simp only [iW] at h;split at h
    · cases h;exact ⟨g,by simp,‹_›,rfl⟩
    · obtain ⟨g',h1,h2⟩:=ih h;exact ⟨g',by simp [h1],h2⟩
theorem iT {odd:List Gn} {i:Int}:iW odd i=none↔∀ g∈odd,g.f0≠i:=by
  induction odd with
  | nil=>simp [iW]
  | cons g r ih =>
    simp only [iW,List.mem_cons,forall_eq_or_imp];by_cases h:g.f0=i
    · simp [h]
    · simp [h,ih]
theorem kR {odd:List Gn} (hu:odd.Pairwise (fun a b=>a.f0<b.f0)) {g:Gn} (hg:g∈odd):iW odd g.f0=some g.f1:=by
  induction odd with
  | nil=>simp at hg
  | cons a r ih =>
    obtain ⟨h1,h2⟩:=List.pairwise_cons.1 hu;simp only [iW];rcases List.mem_cons.1 hg with rfl | hg
    · rw [if_pos rfl]
    · have:=h1 g hg;rw [if_neg (by omega)];exact ih h2 hg
def fO (c:Int) (core:List (List Sp)) (i:Int):List Sp:=if c=0 then [] else core.getD (i % c).toNat []
def fs (c:Int) (core:List (List Sp)) (odd:List Gn) (i:Int):List Sp:=match iW odd i with | some l=>l | none=>fO c core i
def fb (p c:Int) (odd:List Gn) (i:Int):Int:=match iW odd i with | some _=>0 | none=>i / c*p
def gLo (p c:Int) (core:List (List Sp)) (odd:List Gn) (i:Int):Int:=kJ (fs c core odd i)+fb p c odd i
def gHi (p c:Int) (core:List (List Sp)) (odd:List Gn) (i:Int):Int:=kT (fs c core odd i)+fb p c odd i
def inR (i:Int):Prop := -1099511627776≤i∧i≤1099511627776
instance (i:Int):Decidable (inR i):=by unfold inR;exact inferInstance
structure SF (p c:Int) (core:List (List Sp)) (odd:List Gn):Prop where
  hc:c=core.length
  hp0:0≤p
  hp1:p≤1099511627776
  hz:c=0↔p=0
  hcore:∀ l∈core,SL (-1099511627776) 1099511627776 l
  hodd:∀ g∈odd,SL (-1099511627776) 1099511627776 g.f1
  hidx:∀ g∈odd,inR g.f0
  hup:odd.Pairwise (fun a b=>a.f0<b.f0)
  hl:core.length≤6000
  hlo:odd.length≤6000
structure TF (p:Int) (core:List (List Sp)):Prop where
  ta:core.Pairwise (fun a b=>a≠[]→b≠[]→kT a<kJ b)
  tb:∀ a∈core,∀ b∈core,a≠[]→b≠[]→kT a<kJ b+p
variable {p c:Int} {core:List (List Sp)} {odd:List Gn}
theorem SF.abd (h:SF p c core odd):SF p c core []:=⟨h.hc,h.hp0,h.hp1,h.hz,h.hcore,by simp,by simp,List.Pairwise.nil,h.hl,by simp⟩
theorem SF.jq (h:SF p c core odd) (i:Int) (hc:c≠0):fO c core i∈core:=by
  have h0:=h.hc;have h1:0≤i % c:=Int.emod_nonneg _ hc;have h2:i % c<c:=Int.emod_lt_of_pos _ (by omega);have h3:(i % c).toNat<core.length:=by omega
  unfold fO;rw [if_neg hc,List.getD_eq_getElem?_getD,List.getElem?_eq_getElem h3];exact List.getElem_mem h3
theorem SF.abe (h:SF p c core odd) (i:Int):SL (-1099511627776) 1099511627776 (fO c core i):=by
  by_cases hc:c=0
  · unfold fO;rw [if_pos hc];trivial
  · exact h.hcore _ (h.jq i hc)
theorem SF.sS (h:SF p c core odd) (i:Int):SL (-1099511627776) 1099511627776 (fs c core odd i):=by
  unfold fs;cases ho:iW odd i with
  | none=>exact h.abe i
  | some l=>obtain ⟨g,hg,_,rfl⟩:=je ho;exact h.hodd g hg
theorem SF.acW (h:SF p c core odd) {i:Int} (hn:fs c core odd i≠[]):gLo p c core odd i≤gHi p c core odd i:=by
  have:=(h.sS i).ends hn;unfold gLo gHi;omega
theorem yg (h:SF p c core odd) (t:TF p core) {i k:Int} (hik:i<k) (hi:fO c core i≠[]) (hk:fO c core k≠[]):kT (fO c core i)+i / c*p<kJ (fO c core k)+k / c*p:=by
  have hc:c≠0:=by intro e;apply hi;unfold fO;rw [if_pos e]
  have h0:=h.hc;have hcp:0<c:=by omega
  have mi:=h.jq i hc;have mk:=h.jq k hc;have i1:0≤i % c:=Int.emod_nonneg _ hc;have i2:i % c<c:=Int.emod_lt_of_pos _ hcp;have k1:0≤k % c:=Int.emod_nonneg _ hc;have k2:k % c<c:=Int.emod_lt_of_pos _ hcp;have ei:=Int.mul_ediv_add_emod i c;have ek:=Int.mul_ediv_add_emod k c;rcases Int.lt_trichotomy (i / c) (k / c) with hq | hq | hq
  · have hb:=t.tb _ mi _ mk hi hk
    have:i / c*p+p≤k / c*p:=by
      have h1:(i / c+1)*p≤(k / c)*p:=Int.mul_le_mul_of_nonneg_right (by omega) h.hp0;rw [Int.add_mul,Int.one_mul] at h1;exact h1
    omega
  · rw [hq] at ei ⊢
    have hr:i % c<k % c:=by omega
    have hlt:(i % c).toNat<(k % c).toNat:=by omega
    have hkl:(k % c).toNat<core.length:=by omega
    have hil:(i % c).toNat<core.length:=by omega
    have e1:fO c core i=core[(i % c).toNat]:=by unfold fO;rw [if_neg hc,List.getD_eq_getElem?_getD,List.getElem?_eq_getElem hil];rfl
    have e2:fO c core k=core[(k % c).toNat]:=by unfold fO;rw [if_neg hc,List.getD_eq_getElem?_getD,List.getElem?_eq_getElem hkl];rfl
    have:=List.pairwise_iff_getElem.1 t.ta _ _ hil hkl hlt (by rw [← e1];exact hi) (by rw [← e2];exact hk);rw [← e1,← e2] at this;omega
  · exfalso
    have h1:c*(k / c)+c≤c*(i / c):=by
      have:c*(k / c+1)≤c*(i / c):=Int.mul_le_mul_of_nonneg_left (by omega) (by omega);rw [Int.mul_add,Int.mul_one] at this;exact this
    omega
def gap (c:Int) (core:List (List Sp)) (odd:List Gn) (i k:Int):Prop:=∀ m,i<m→m<k→fs c core odd m=[]
structure BF (p c:Int) (core:List (List Sp)) (odd:List Gn):Prop where
  up:∀ g∈odd,g.f1≠[]→∀ k,g.f0<k→inR k→fs c core odd k≠[]→gap c core odd g.f0 k→gHi p c core odd g.f0<gLo p c core odd k
  dn:∀ g∈odd,g.f1≠[]→∀ k,k<g.f0→inR k→fs c core odd k≠[]→gap c core odd k g.f0→gHi p c core odd k<gLo p c core odd g.f0
theorem acX (h:SF p c core odd) (t:TF p core) (b:BF p c core odd):∀ (n:Nat) (i k:Int),(k - i).toNat≤n→i<k→inR i→inR k→fs c core odd i≠[]→fs c core odd k≠[]→gHi p c core odd i<gLo p c core odd k:=by
  intro n;induction n with
  | zero=>intro i k hn hik;omega
  | succ n ih =>
    intro i k hn hik ri rk hi hk;by_cases hg:gap c core odd i k
    · cases hoi:iW odd i with
      | some l =>
        obtain ⟨g,hg1,rfl,rfl⟩:=je hoi;exact b.up g hg1 (by unfold fs at hi;rw [hoi] at hi;exact hi) k hik rk hk hg
      | none =>
        cases hok:iW odd k with
        | some l =>
          obtain ⟨g,hg1,rfl,rfl⟩:=je hok;exact b.dn g hg1 (by unfold fs at hk;rw [hok] at hk;exact hk) i hik ri hi hg
        | none =>
          have:=yg h t hik (by unfold fs at hi;rw [hoi] at hi;exact hi) (by unfold fs at hk;rw [hok] at hk;exact hk);unfold gHi gLo fs fb;rw [hoi,hok];exact this
    · have:∃ m,i<m∧m<k∧fs c core odd m≠[]:=Classical.byContradiction fun hx=>hg (fun m h1 h2=>Classical.byContradiction fun h3=>hx ⟨m,h1,h2,h3⟩)
      obtain ⟨m,h1,h2,h3⟩:=this;unfold inR at ri rk;have a1:=ih i m (by omega) h1 ri ⟨by omega,by omega⟩ hi h3;have a2:=ih m k (by omega) h2 ⟨by omega,by omega⟩ rk h3 hk;have a3:=h.acW h3;omega
structure FOK (p c:Int) (core:List (List Sp)) (odd:List Gn):Prop where
  s:SF p c core odd
  t:TF p core
  ord:∀ i k,i<k→inR i→inR k→fs c core odd i≠[]→fs c core odd k≠[]→gHi p c core odd i<gLo p c core odd k
theorem FOK.of (h:SF p c core odd) (t:TF p core) (b:BF p c core odd):FOK p c core odd:=⟨h,t,fun i k hik=>acX h t b _ i k (Nat.le_refl _) hik⟩
theorem acY (h:SF p c core odd) (t:TF p core) {i k:Int} (hik:i<k) (hi:fs c core [] i≠[]) (hk:fs c core [] k≠[]):gHi p c core [] i<gLo p c core [] k:=yg h t hik hi hk
end
section
variable {p c:Int} {core:List (List Sp)} {odd:List Gn}
theorem rdG (l:List Gn) (j:Nat) (hj:j<l.length):xg l (j:Int)=l[j]:=by simp [xg,hj]
structure afF (odd:List Gn) (i:Int) (r:Int × Bool):Prop where
  low:0≤r.1
  high:r.1≤odd.length
  below:∀ j (hj:j<odd.length),(j:Int)<r.1→odd[j].f0<i
  above:∀ j (hj:j<odd.length),r.1≤(j:Int)→i≤odd[j].f0
  is:r.2=true→∃ (hj:r.1.toNat<odd.length),odd[r.1.toNat].f0=i
  no:r.2=false→iW odd i=none
theorem wN {l:List Gn} (h:l.Pairwise (fun a b=>a.f0<b.f0)) {i j:Nat} (hj:j<l.length) (hij:i<j):(l[i]'(by omega)).f0<l[j].f0:=List.pairwise_iff_getElem.1 h i j (by omega) hj hij
end
section
theorem wrap_u64 (n:Int):IntKind.u64.wrap n=n % 18446744073709551616:=by simp [IntKind.wrap,IntKind.bits,IntKind.signed]
theorem wraps_u64 (n:Int) (h₀:0≤n) (h₁:n<2 ^ 64):IntKind.u64.wrap n=n:=by rw [wrap_u64];omega
theorem aeE (x:Int) (h0:0≤x) (h1:x<18446744073709551616):Go.bits .and .u64 x 4294967295=x % 4294967296:=bits_mask .u64 64 (by decide) wraps_u64 32 (by decide) x h0 h1
theorem yh (u v:Int) (hu:0≤u) (hu':u≤4294967295) (hv:0≤v) (hv':v≤4294967295):0≤u*v∧u*v≤18446744065119617025:=by
  refine ⟨Int.mul_nonneg hu hv,?_⟩;have:=Int.mul_le_mul hu' hv' hv (show (0:Int)≤4294967295 by omega);omega
def yj (a b:Int):Int × Int:=if -9223372036854775808≤a*b∧a*b≤9223372036854775807 then (a*b,0) else (0,10)
end
section
variable {p c:Int} {core:List (List Sp)} {odd:List Gn}
theorem rdL (l:List (List Sp)) (j:Nat) (hj:j<l.length):ab5 l (j:Int)=l[j]:=by simp [ab5,hj]
theorem ahJ (l:List Gn) (x:Int) (hj:x.toNat<l.length):xg l x=l[x.toNat]:=by simp [xg,hj]
theorem ahK (l:List (List Sp)) (x:Int) (hj:x.toNat<l.length):ab5 l x=l[x.toNat]:=by simp [ab5,hj]
def oq (p c:Int) (core:List (List Sp)) (odd:List Gn) (i:Int):List Sp × Int × Int :=
  match iW odd i with | some l=>(l,0,0) | none=>if c=0 then ([],0,0) else (fO c core i,yj (i / c) p)
theorem vD (i:Int):(oq p c core odd i).1=fs c core odd i:=by
  unfold oq fs;cases iW odd i with
  | some l=>rfl
  | none =>
      by_cases hc:c=0
      · simp [hc,fO]
      · simp [hc]
def jm (p c:Int) (core:List (List Sp)) (odd:List Gn) (i:Int):List Sp × Int :=
  if inR i then (if fs c core odd i=[] then ([],0) else lU (fb p c odd i) (fs c core odd i)) else ([],20)
def yt (c:Int) (core:List (List Sp)) (odd:List Gn) (a:Int) (r:Int × Bool):Prop :=
  (r.2=true→a≤r.1∧inR r.1∧fs c core odd r.1≠[]∧∀ m,a≤m→m<r.1→fs c core odd m=[])∧(r.2=false→r.1=0∧∀ m,a≤m→inR m→fs c core odd m=[])
def yu (c:Int) (core:List (List Sp)) (odd:List Gn) (a:Int) (r:Int × Bool):Prop :=
  (r.2=true→r.1≤a∧inR r.1∧fs c core odd r.1≠[]∧∀ m,m≤a→r.1<m→fs c core odd m=[])∧(r.2=false→r.1=0∧∀ m,m≤a→inR m→fs c core odd m=[])
theorem sU (h:SF p c core odd) (hb:∀ l∈core,l=[]) {m:Int} (hm:fs c core odd m≠[]):∃ j,∃ hj:j<odd.length,odd[j].f0=m∧odd[j].f1≠[]:=by
  unfold fs at hm;cases ho:iW odd m with
  | some l =>
    obtain ⟨g,hg,e1,e2⟩:=je ho;obtain ⟨j,hj,rfl⟩:=List.getElem_of_mem hg;exact ⟨j,hj,e1,by rw [ho] at hm;rw [e2];exact hm⟩
  | none =>
    rw [ho] at hm;by_cases hc:c=0
    · exact absurd (by simp [fO,hc]) hm
    · exact absurd (hb _ (h.jq m hc)) hm
theorem yw (h:SF p c core odd) {j:Nat} (hj:j<odd.length):fs c core odd odd[j].f0=odd[j].f1:=by
  unfold fs;rw [kR h.hup (List.getElem_mem hj)]
end
section
variable {p c:Int} {core:List (List Sp)} {odd:List Gn}
theorem ag1 (a b:Int):mn a b=min a b:=by unfold mn;split <;> omega
theorem ag2 (a b:Int):mx a b=max a b:=by unfold mx;split <;> omega
theorem SL.len {lo hi:Int}:∀ {l:List Sp} {lo:Int},SL lo hi l→(l.length:Int)≤max 0 (hi - lo+1)
  | [],_,_=>by simp;omega
  | s :: r,lo,⟨h1,h2,h3,h4⟩=>by
    have:=SL.len (lo:=lo) h4;simp only [List.length_cons];omega
theorem SL.vE {l:List Sp} (h:SL (-1099511627776) 1099511627776 l):l.length≤4611686018427387903:=by have:=SL.len (lo:=0) h;omega
theorem sV:∀ (l:List Sp),l≠[]→∃ z,l.getLast? = some z∧z.f1=kT l
  | [],h=>absurd rfl h
  | [s],_=>⟨s,rfl,rfl⟩
  | s :: t :: r,_=>by
    obtain ⟨z,h1,h2⟩:=sV (t :: r) (by simp);exact ⟨z,by rw [List.getLast?_cons_cons];exact h1,h2⟩
theorem qA (a b:List Sp):jc a b=true↔(a≠[]→b≠[]→kT a<kJ b):=by
  by_cases ha:a=[]
  · subst ha;simp [jc]
  · obtain ⟨z,h1,h2⟩:=sV a ha
    cases b with
    | nil=>unfold jc;rw [h1];simp
    | cons s r=>unfold jc;rw [h1];simp [kJ,h2,ha]
theorem acZ (l:List Sp):qP l=if l=[] then (0,0,false) else (kJ l,kT l,true):=by
  by_cases ha:l=[]
  · subst ha;rfl
  · obtain ⟨z,h1,h2⟩:=sV l ha
    rw [if_neg ha];cases l with
    | nil=>exact absurd rfl ha
    | cons s r=>unfold qP;rw [h1];simp [kJ,h2]
end
section
variable {p c:Int} {core:List (List Sp)} {odd:List Gn}
structure MF (core:List (List Sp)) (odd:List Gn):Prop where
  mc:∀ l∈core,l.length≤9223372036854775807
  mo:∀ g∈odd,g.f1.length≤9223372036854775807
end
section
variable {p c:Int} {core:List (List Sp)} {odd:List Gn}
def neL (l:List (List Sp)):List (List Sp):=l.filter (fun x=>decide (x≠[]))
theorem wO {l:List (List Sp)} {x:List Sp}:x∈neL l↔x∈l∧x≠[]:=by simp [neL]
theorem ac0 (l:List (List Sp)) (x:List Sp):neL (l++[x])=if x=[] then neL l else neL l++[x]:=by
  unfold neL;rw [List.filter_append];by_cases h:x=[]
  · simp [h]
  · simp [h]
theorem afG (x:List Sp) (hx:x≠[]) (hl:x.length≤4611686018427387903):wrap64 ((x.length:Int) - 1)=(x.length:Int) - 1∧0≤(x.length:Int) - 1∧(w9 x ((x.length:Int) - 1)).f1=kT x:=by
  rcases List.eq_nil_or_concat x with rfl | ⟨o,z,rfl⟩
  · exact absurd rfl hx
  · rw [List.concat_eq_append] at *
    have e:((o++[z]).length:Int) - 1=(o.length:Int):=by simp
    refine ⟨mR (by simp only [List.length_append,List.length_singleton];omega) (by omega),by rw [e];omega,?_⟩;rw [e,abb];have:=afE o [] z;rw [this]
theorem afH (x:List Sp) (hx:x≠[]):0<x.length∧(w9 x 0).f0=kJ x:=by
  cases x with
  | nil=>exact absurd rfl hx
  | cons s r=>exact ⟨by simp,rfl⟩
end
section
variable {p c:Int} {core:List (List Sp)} {odd:List Gn}
structure Ex (p c:Int) (core:List (List Sp)) (odd:List Gn) (i:Int):Prop where
  r:inR i
  n:fs c core odd i≠[]
  lo : -1099511627776≤gLo p c core odd i
  hi:gHi p c core odd i≤1099511627776
def gT (p c:Int) (core:List (List Sp)) (odd:List Gn) (i:Int):List Sp:=(fs c core odd i).map (eO (fb p c odd i))
theorem SF.ou (h:SF p c core odd) {i:Int} (e:Ex p c core odd i):jm p c core odd i=(gT p c core odd i,0):=by
  unfold jm;rw [if_pos e.r,if_neg e.n];unfold lU;have e1:=e.lo;have e2:=e.hi;rw [if_pos (((h.sS i).nL e.n).2 ⟨e1,e2⟩)];rfl
theorem SF.abf (h:SF p c core odd) {i:Int} (hn:fs c core odd i≠[]) (e:¬ Ex p c core odd i):jm p c core odd i=([],20):=by
  unfold jm;by_cases hr:inR i
  · rw [if_pos hr,if_neg hn]
    unfold lU;rw [if_neg];intro ha;have:=((h.sS i).nL hn).1 ha;exact e ⟨hr,hn,this.1,this.2⟩
  · rw [if_neg hr]
theorem SF.sW (h:SF p c core odd) {i:Int} (hr:inR i) (hn:fs c core odd i≠[]) (e:(jm p c core odd i).2=0):Ex p c core odd i:=by
  refine Classical.byContradiction fun hx => ?_;rw [h.abf hn hx] at e;cases e
theorem kD {i:Int} (hn:fs c core odd i≠[]):gT p c core odd i≠[]∧kJ (gT p c core odd i)=gLo p c core odd i∧kT (gT p c core odd i)=gHi p c core odd i :=
  ⟨by unfold gT;simpa using hn,om _ _ hn,oo _ _ hn⟩
theorem SF.ag3 (h:SF p c core odd) {i:Int} (e:Ex p c core odd i):SL (-1099511627776) 1099511627776 (gT p c core odd i):=(h.sS i).moved (((h.sS i).nL e.n).2 ⟨e.lo,e.hi⟩)
end
section
variable {p c:Int} {core:List (List Sp)} {odd:List Gn}
theorem ag4 (q c r:Int) (h0:0≤r) (h1:r<c):(q*c+r) / c=q∧(q*c+r) % c=r:=by
  have hc:c≠0:=by omega
  constructor
  · rw [Int.add_comm,Int.add_mul_ediv_right _ _ hc,Int.ediv_eq_zero_of_lt h0 h1];omega
  · rw [Int.add_comm,Int.add_mul_emod_self_right,Int.emod_eq_of_lt h0 h1]
theorem abg (h:SF p c core odd) (q:Int) (j:Nat) (hj:j<core.length):fO c core (q*c+j)=core[j]∧(q*c+j) / c=q:=by
  have h0:=h.hc;obtain ⟨e1,e2⟩:=ag4 q c j (by omega) (by omega);refine ⟨?_,e1⟩;unfold fO;rw [if_neg (by omega),e2,List.getD_eq_getElem?_getD,Int.toNat_natCast,List.getElem?_eq_getElem hj];rfl
theorem sZ (h:SF p c core odd) {m:Int} (hm:fO c core m≠[]):0<c∧0<p∧∃ j:Nat,∃ hj:j<core.length,m % c=(j:Int)∧fO c core m=core[j]:=by
  have hc:c≠0:=by intro e;apply hm;unfold fO;rw [if_pos e]
  have h0:=h.hc;have h1:0≤m % c:=Int.emod_nonneg _ hc;have h2:m % c<c:=Int.emod_lt_of_pos _ (by omega);have h3:(m % c).toNat<core.length:=by omega
  have hp:p≠0:=fun e=>hc (h.hz.2 e);have hp0:=h.hp0;refine ⟨by omega,by omega,(m % c).toNat,h3,by omega,?_⟩;unfold fO;rw [if_neg hc,List.getD_eq_getElem?_getD,List.getElem?_eq_getElem h3];rfl
structure PlU (p c:Int) (core:List (List Sp)) (T:Int) (r:Int × Bool):Prop where
  y:r.2=true→fO c core r.1≠[]∧T≤gHi p c core [] r.1∧∀ m,fO c core m≠[]→T≤gHi p c core [] m→r.1≤m
  n:r.2=false→∀ m,fO c core m=[]
  lo : -4611686018427387904≤r.1
  hi:r.1≤4611686018427387904
end
section
variable {p c:Int} {core:List (List Sp)} {odd:List Gn}
structure PnU (p c:Int) (core:List (List Sp)) (odd:List Gn) (T:Int) (r:Int × Bool):Prop where
  y:r.2=true→Ex p c core [] r.1∧iW odd r.1=none∧T≤gHi p c core [] r.1∧∀ m,Ex p c core [] m→iW odd m=none→T≤gHi p c core [] m→r.1≤m
  n:r.2=false→r.1=0∧∀ m,Ex p c core [] m→iW odd m=none→¬ T≤gHi p c core [] m
structure FrU (p c:Int) (core:List (List Sp)) (odd:List Gn) (T:Int) (r:Int × Bool):Prop where
  y:r.2=true→Ex p c core odd r.1∧T≤gHi p c core odd r.1∧∀ m,Ex p c core odd m→T≤gHi p c core odd m→r.1≤m
  n:r.2=false→r.1=0∧∀ m,Ex p c core odd m→¬ T≤gHi p c core odd m
def cl (t:Int):Int:=mx (mn t 1099511627777) (-1099511627777)
end
section
variable {p c:Int} {core:List (List Sp)} {odd:List Gn}
structure PlD (p c:Int) (core:List (List Sp)) (T:Int) (r:Int × Bool):Prop where
  y:r.2=true→fO c core r.1≠[]∧gLo p c core [] r.1≤T∧∀ m,fO c core m≠[]→gLo p c core [] m≤T→m≤r.1
  n:r.2=false→∀ m,fO c core m=[]
  lo : -4611686018427387904≤r.1
  hi:r.1≤4611686018427387904
structure PnD (p c:Int) (core:List (List Sp)) (odd:List Gn) (T:Int) (r:Int × Bool):Prop where
  y:r.2=true→Ex p c core [] r.1∧iW odd r.1=none∧gLo p c core [] r.1≤T∧∀ m,Ex p c core [] m→iW odd m=none→gLo p c core [] m≤T→m≤r.1
  n:r.2=false→r.1=0∧∀ m,Ex p c core [] m→iW odd m=none→¬ gLo p c core [] m≤T
structure TlD (p c:Int) (core:List (List Sp)) (odd:List Gn) (T:Int) (r:Int × Bool):Prop where
  y:r.2=true→Ex p c core odd r.1∧gLo p c core odd r.1≤T∧∀ m,Ex p c core odd m→gLo p c core odd m≤T→m≤r.1
  n:r.2=false→r.1=0∧∀ m,Ex p c core odd m→¬ gLo p c core odd m≤T
end
section
variable {p c:Int} {core:List (List Sp)} {odd:List Gn}
theorem aa9.mf (f:aa9 p c core odd):MF core odd:=⟨fun l hl=>(f.ag0 l hl).2,fun g hg=>(f.ahV g hg).2.2⟩
structure AtS (p c:Int) (core:List (List Sp)) (odd:List Gn) (t:Int) (r:Int × Bool):Prop where
  y:r.2=true→Ex p c core odd r.1∧vL (gT p c core odd r.1) t=true
  n:r.2=false→r.1=0∧∀ m,Ex p c core odd m→vL (gT p c core odd m) t=false
end
section
variable {p c:Int} {core:List (List Sp)} {odd:List Gn}
structure BtS (p c:Int) (core:List (List Sp)) (odd:List Gn) (h0 h1:Int) (xs:List (Int × List Sp)):Prop where
  up:xs.Pairwise (fun x y=>x.1<y.1)
  mem:∀ x∈xs,Ex p c core odd x.1∧x.2=gT p c core odd x.1∧h0≤gHi p c core odd x.1∧gLo p c core odd x.1≤h1
  all:∀ j,Ex p c core odd j→h0≤gHi p c core odd j→gLo p c core odd j≤h1→(j,gT p c core odd j)∈xs
end
section
variable {p c:Int} {core:List (List Sp)} {odd:List Gn}
structure Few (p c:Int) (core:List (List Sp)) (odd:List Gn):Prop where
  ok:FOK p c core odd
  lc:core.length≤12
  lo:odd.length≤8
  hc:∀ l∈core,l.length≤60
  ho:∀ g∈odd,g.f1.length≤60
theorem Few.fs (w:Few p c core odd) (i:Int):(fs c core odd i).length≤60:=by
  unfold P.fs;cases ho:iW odd i with
  | some l =>
    obtain ⟨g,hg,_,rfl⟩:=je ho;exact w.ho g hg
  | none =>
    show (fO c core i).length≤60;by_cases hc:c=0
    · unfold fO;rw [if_pos hc];simp
    · exact w.hc _ (w.ok.s.jq i hc)
end
section
variable {p c:Int} {core:List (List Sp)} {odd:List Gn}
structure ahY (p:Int) (core:List (List Sp)) (odd:List Gn):Prop where
  hc:∀ l∈core,l≠[] → -100≤kJ l∧kT l≤100
  ho:∀ g∈odd,-100≤g.f0∧g.f0≤100
  hp:p≤200
theorem Few.c12 (w:Few p c core odd) (hc:c≠0):1≤c∧c≤12∧1≤p:=by
  have h1:=w.ok.s.hc;have h2:=w.lc;have h3:=w.ok.s.hz;have h4:=w.ok.s.hp0;have h5:p≠0:=fun q=>hc (h3.2 q);omega
end
end Go.Proofs.YtcomnjodjijcmaaGreat.P
namespace Go.Proofs.YtcomnjodjijcmaaGreat.Q
set_option linter.unusedVariables false
set_option linter.unusedSimpArgs false
open Go.RowKit Go.Proofs.YtcomnjodjijcmaaGreatW.dz Go.Proofs.YtcomnjodjijcmaaGreatW.eD M R P
section
theorem Ev.yes {α:Type} {c:Prop} [Decidable c] {g f:Nat→Option α} {r:α} (h:c) (k:Ev g r):Ev (fun n=>if c then g n else f n) r:=Ev.congr (fun n=>if_pos h) k
theorem Ev.no {α:Type} {c:Prop} [Decidable c] {g f:Nat→Option α} {r:α} (h:¬ c) (k:Ev f r):Ev (fun n=>if c then g n else f n) r:=Ev.congr (fun n=>if_neg h) k
theorem Ev.val {α:Type} {g:Option α} {r:α} (h:g=some r):Ev (fun _=>g) r:=⟨0,fun _ _=>h⟩
theorem rdS (pre r:List Sp) (s:Sp):gS (pre++s :: r) (pre.length:Int)=s:=by simp [gS]
theorem abZ (l:List Sp) (j:Nat) (hj:j<l.length):gS l (j:Int)=l[j]:=by simp [gS,hj]
theorem rdG (l:List Gn) (j:Nat) (hj:j<l.length):gG l (j:Int)=l[j]:=by simp [gG,hj]
theorem rdL (l:List (List Sp)) (j:Nat) (hj:j<l.length):gL l (j:Int)=l[j]:=by simp [gL,hj]
theorem ahJ (l:List Gn) (x:Int) (hj:x.toNat<l.length):gG l x=l[x.toNat]:=by simp [gG,hj]
theorem ahK (l:List (List Sp)) (x:Int) (hj:x.toNat<l.length):gL l x=l[x.toNat]:=by simp [gL,hj]
theorem len1 {α:Type} (pre:List α) (s:α):((pre.length:Int)+1)=((pre++[s]).length:Int):=by simp
theorem adB (k:Nat) (a:Int):gq.f k a=some (okT a):=by
  unfold gq.f okT;by_cases h : -1099511627776≤a
  · simp [h]
  · simp [h]
theorem jE (k:Nat) (i:Int):fI.f k i=some (decide (inR i)):=by
  unfold fI.f inR;by_cases h : -1099511627776≤i
  · simp [h]
  · simp [h]
theorem abh {lo:Int} {s:Sp} {r:List Sp} (h0:lo≤s.f0) (h1:s.f0≤s.f1) (h2:s.f1≤1099511627776):slB lo (s :: r)=slB (s.f1+2) r:=by simp [slB,h0,h1,h2]
theorem adC {lo:Int} {s:Sp} {r:List Sp} (h:¬ (lo≤s.f0∧s.f0≤s.f1∧s.f1≤1099511627776)):slB lo (s :: r)=false:=by
  rw [Bool.eq_false_iff];intro e;rw [mU] at e;exact h ⟨e.1,e.2.1,e.2.2.1⟩
end
variable [Inhabited WT]
theorem nx {n:Nat} {i:Int} (h:i<n) (h0:0≤i) (hn:n≤9223372036854775807):wq (i+1)=i+1:=by rw [yQ];exact mR (by omega) (by omega)
theorem iJ {n:Int} (h0 : -9223372036854775808≤n) (h1:n≤9223372036854775807):wq n=n:=by rw [yQ];exact mR h0 h1
theorem yx (l:List Sp) (hl:l.length≤9223372036854775807):Ev (fun k=>dV.f k l) (slB (-1099511627776) l):=by
  have key:∀ (rest pre:List Sp) (lo:Int),l=pre++rest→(pre=[]∧lo = -1099511627776∨∃ p q,pre=p++[q]∧lo=q.f1+2 ∧ -1099511627776≤q.f1∧q.f1≤1099511627776) →
      Ev (fun k=>dV.l0 (some false) (some true) l l (l.length:Int) k (pre.length:Int)) (slB lo rest):=by
    intro rest;induction rest with
    | nil =>
      intro pre lo hp hlo;refine Ev.step (f:=fun _=>some true) (fun k => ?_) (Ev.now _);have c1:¬ (pre.length:Int)<(l.length:Int):=by rw [hp];simp
      simp [dV.l0,dV.l0T,c1]
    | cons s r ih =>
      intro pre lo hp hlo;have hlen:pre.length+1≤l.length:=by rw [hp];simp
      have hrd:gS l (pre.length:Int)=s:=by rw [hp];exact rdS _ _ _
      have hlow : -1099511627776≤lo:=by rcases hlo with ⟨_,rfl⟩ | ⟨p,q,_,rfl,h,_⟩ <;> omega
      have c1:(pre.length:Int)<(l.length:Int):=by omega
      have c2:(0:Int)≤(pre.length:Int):=by omega
      have hw:=nx c1 c2 hl;refine Ev.step (fun k=>rfl) ?_;simp only [dV.l0,dV.l0T,decide_eq_true_eq,c1,c2,if_true,hrd,adB,Option.bind_some,hw];by_cases t0:okT s.f0=true
      · by_cases t1:okT s.f1=true
        · simp only [t0,t1,Bool.not_true,Bool.false_eq_true,if_false]
          rw [sQ] at t0 t1;by_cases t2:s.f0>s.f1
          · have:slB lo (s :: r)=false:=adC (by omega)
            rw [this];exact Ev.yes t2 (Ev.now _)
          · refine Ev.no t2 ?_
            rcases hlo with ⟨rfl,rfl⟩ | ⟨p,q,rfl,rfl,hq1,hq2⟩
            · refine Ev.no (by simp) ?_
              have hs:slB (-1099511627776) (s :: r)=slB (s.f1+2) r:=abh (by omega) (by omega) (by omega);rw [hs];exact ih [s] (s.f1+2) hp (.inr ⟨[],s,rfl,rfl,t1.1,t1.2⟩)
            · have hwp:wq (((p++[q]).length:Int) - 1)=(p.length:Int):=by rw [iJ (by omega) (by omega)];simp
              have hrq:gS l (p.length:Int)=q:=by rw [hp];simp [gS]
              have hw2:wq (q.f1+2)=q.f1+2:=iJ (by omega) (by omega);have c3:(p.length:Int)<(l.length:Int):=by simp at hlen;omega
              simp only [hwp,hrq,hw2,c3,if_true];refine Ev.yes (by simp) (Ev.yes (by omega) ?_);by_cases t3:s.f0<q.f1+2
              · have aa:slB (q.f1+2) (s :: r)=false:=adC (by omega)
                rw [aa];exact Ev.yes t3 (Ev.now _)
              · have hs:slB (q.f1+2) (s :: r)=slB (s.f1+2) r:=abh (by omega) (by omega) (by omega)
                rw [hs];refine Ev.no t3 ?_;rw [len1 _ s];exact ih (p++[q]++[s]) (s.f1+2) (by rw [hp];simp) (.inr ⟨p++[q],s,rfl,rfl,t1.1,t1.2⟩)
        · have e2:slB lo (s :: r)=false:=by
            rw [Bool.eq_false_iff];intro h;rw [mU] at h;obtain ⟨h1,h2,h3,_⟩:=h;exact t1 (sQ.2 ⟨by omega,h3⟩)
          simp only [t0,t1,Bool.not_true,Bool.not_false,Bool.false_eq_true,if_false,if_true,e2];exact Ev.now _
      · have e2:slB lo (s :: r)=false:=by
          rw [Bool.eq_false_iff];intro h;rw [mU] at h;obtain ⟨h1,h2,h3,_⟩:=h;exact t0 (sQ.2 ⟨by omega,by omega⟩)
        simp only [t0,Bool.not_false,if_true,e2];exact Ev.now _
  exact key l [] (-1099511627776) rfl (.inl ⟨rfl,rfl⟩)
theorem o7 (k:Nat) (a n:Int) (h1 : -9223372036854775808≤a+n) (h2:a+n≤9223372036854775807):iP.f k a n=some (a+n,0):=by
  unfold iP.f;rw [iJ h1 h2];have e:((decide ((a+n)>a))==(decide (n>0)))=true:=by
    by_cases h:n>0
    · have:a<a+n:=by omega
      simp [h,this]
    · have:a+n≤a:=by omega
      simp [h,this]
  rw [e];rfl
theorem add_not (k:Nat) (a n:Int) (ha : -1099511627776≤a∧a≤1099511627776) (hn : -9223372036854775808≤n∧n≤9223372036854775807) (h:¬ (-9223372036854775808≤a+n∧a+n≤9223372036854775807)):iP.f k a n=some (0,10):=by
  unfold iP.f;have e:((decide (wq (a+n)>a))==(decide (n>0)))=false:=by
    rw [yQ];by_cases g:n>0
    · have:¬ wrap64 (a+n)>a:=by unfold wrap64;omega
      simp [g,this]
    · have:wrap64 (a+n)>a:=by unfold wrap64;omega
      simp [g,this]
  have n0:decide (n=0)=false:=by simp;omega
  rw [e,n0];rfl
theorem abj (l:List Sp) (n:Int) (hs:SL (-1099511627776) 1099511627776 l) (hn : -9223372036854775808≤n∧n≤9223372036854775807):Ev (fun k=>dY.f k l n) (lU n l):=by
  have hl:l.length≤2199023255553:=by have:=SL.len (lo:=0) hs;omega
  have key:∀ (rest pre:List Sp),l=pre++rest→pre.all (okM n)=true→Ev (fun k=>dY.l0 (fun _=>some ([],20)) (fun y=>some (y,0)) n l (l.length:Int) k (pre.map (eO n)) (pre.length:Int)) (lU n l):=by
    intro rest;induction rest with
    | nil =>
      intro pre hp hok;have e:l=pre:=by rw [hp];simp
      have c1:¬ (pre.length:Int)<(l.length:Int):=by rw [hp];simp
      refine Ev.step (f:=fun _=>some (pre.map (eO n),0)) (fun k => ?_) ?_
      · simp [dY.l0,dY.l0T,c1]
      · rw [e];unfold lU;rw [if_pos hok];exact Ev.now _
    | cons s r ih =>
      intro pre hp hok;have hlen:pre.length+1≤l.length:=by rw [hp];simp
      have hrd:gS l (pre.length:Int)=s:=by rw [hp];exact rdS _ _ _
      have c1:(pre.length:Int)<(l.length:Int):=by omega
      have c2:(0:Int)≤(pre.length:Int):=by omega
      have hw:=nx c1 c2 (by omega);have c3:(pre.map (eO n)).length+1≤8796093022208:=by rw [List.length_map];omega
      have ht:=SL.ticks hs (s:=s) (by rw [hp];simp);have bad:okM n s=false→lU n l=([],20):=fun h=>by
        unfold lU;rw [if_neg (by rw [hp,List.all_append,List.all_cons,h];simp)]
      refine Ev.step (fun k=>rfl) ?_;simp only [dY.l0,dY.l0T,decide_eq_true_eq,c1,c2,c3,if_true,hrd,adB,hw];by_cases g0 : -9223372036854775808≤s.f0+n∧s.f0+n≤9223372036854775807
      · by_cases g1 : -9223372036854775808≤s.f1+n∧s.f1+n≤9223372036854775807
        · simp only [o7 _ _ _ g0.1 g0.2,o7 _ _ _ g1.1 g1.2,Option.bind_some]
          by_cases t0:okT (s.f0+n)=true
          · by_cases t1:okT (s.f1+n)=true
            · have:=ih (pre++[s]) (by rw [hp];simp) (by rw [List.all_append,hok];simp [okM,t0,t1])
              simp only [t0,t1,decide_true,Bool.not_true,Bool.false_eq_true,if_false];rw [List.map_append] at this;rw [len1 _ s];exact this
            · rw [bad (by simp [okM,t1])]
              simp only [t0,t1,decide_true,Bool.not_true,Bool.not_false,Bool.false_eq_true,if_false,if_true];exact Ev.now _
          · rw [bad (by simp [okM,t0])]
            simp only [t0,decide_true,Bool.not_true,Bool.not_false,Bool.false_eq_true,if_false,if_true];exact Ev.now _
        · have:okT (s.f1+n)=false:=by unfold okT;simp;omega
          rw [bad (by simp [okM,this])];simp only [o7 _ _ _ g0.1 g0.2,add_not _ _ _ (show -1099511627776≤s.f1∧s.f1≤1099511627776 by omega) hn g1,Option.bind_some];exact Ev.now _
      · have:okT (s.f0+n)=false:=by unfold okT;simp;omega
        rw [bad (by simp [okM,this])];by_cases g1 : -9223372036854775808≤s.f1+n∧s.f1+n≤9223372036854775807
        · simp only [add_not _ _ _ (show -1099511627776≤s.f0∧s.f0≤1099511627776 by omega) hn g0,o7 _ _ _ g1.1 g1.2,Option.bind_some]
          exact Ev.now _
        · simp only [add_not _ _ _ (show -1099511627776≤s.f0∧s.f0≤1099511627776 by omega) hn g0,add_not _ _ _ (show -1099511627776≤s.f1∧s.f1≤1099511627776 by omega) hn g1,Option.bind_some]
          exact Ev.now _
  exact key l [] rfl rfl
theorem abk (p:List Sp) (z:Sp) (h:(p++[z]).length≤4611686018427387904):wq (((p++[z]).length:Int) - 1)=(p.length:Int)∧gS (p++[z]) (p.length:Int)=z:=by
  refine ⟨?_,rdS p [] z⟩;rw [iJ (by omega) (by omega)];simp
theorem adD (k:Nat) (l:List Sp) (h:l.length≤4611686018427387904):gD.f k l=some (⟨(qP l).1,(qP l).2.1⟩,(qP l).2.2):=by
  rcases List.eq_nil_or_concat l with rfl | ⟨p,z,rfl⟩
  · simp [gD.f,qP]
  · have e:p.concat z=p++[z]:=by simp
    rw [e] at h ⊢;obtain ⟨w,r⟩:=abk p z h;have c0:¬ ((p++[z]).length:Int)=0:=by simp only [List.length_append,List.length_singleton];omega
    have c1:(0:Int)<((p++[z]).length:Int):=by omega
    have c2:(p.length:Int)<((p++[z]).length:Int):=by simp only [List.length_append,List.length_singleton];omega
    have c3:(0:Int)≤(p.length:Int):=by omega
    have hg:(p++[z]).getLast? = some z:=by simp
    simp only [gD.f,decide_eq_true_eq,c0,c1,w,c2,c3,r,if_true,if_false];unfold qP;rw [hg];cases p <;> simp [gS]
theorem abl (k:Nat) (a b:List Sp) (h:a.length≤4611686018427387904):eH.f k a b=some (jc a b):=by
  rcases List.eq_nil_or_concat a with rfl | ⟨p,z,rfl⟩
  · simp [eH.f,jc]
  · have e:p.concat z=p++[z]:=by simp
    rw [e] at h ⊢;obtain ⟨w,r⟩:=abk p z h;have c0:¬ ((p++[z]).length:Int)=0:=by simp only [List.length_append,List.length_singleton];omega
    have c2:(p.length:Int)<((p++[z]).length:Int):=by simp only [List.length_append,List.length_singleton];omega
    have c3:(0:Int)≤(p.length:Int):=by omega
    simp only [eH.f,decide_eq_true_eq,c0,w,c2,c3,r,if_true,if_false];cases b with
    | nil=>simp [jc]
    | cons s q =>
      have:¬ (((s :: q).length:Int)=0):=by simp;omega
      have c1:(0:Int)<((s :: q).length:Int):=by simp
      rw [if_neg this,if_pos c1];simp [jc,gS]
end Go.Proofs.YtcomnjodjijcmaaGreat.Q
namespace Go.Proofs.YtcomnjodjijcmaaGreat.Q
set_option linter.unusedVariables false
set_option linter.unusedSimpArgs false
open Go.RowKit Go.Proofs.YtcomnjodjijcmaaGreatW.dz Go.Proofs.YtcomnjodjijcmaaGreatW.eD M R P
section
variable {p c:Int} {core:List (List Sp)} {odd:List Gn}
theorem ag5 (k:Nat) (a b:Int):cmp_Compare_int.f k a b=some (if a<b then -1 else if a>b then 1 else 0):=by
  unfold cmp_Compare_int.f;by_cases h1:a<b
  · simp [cmp_isNaN_int.f,h1]
  · by_cases h2:a>b
    · simp [cmp_isNaN_int.f,h1,h2]
    · simp [cmp_isNaN_int.f,h1,h2]
theorem Ev.shift {α:Type} {g:Nat→Option α} {r:α} (h:Ev g r):Ev (fun k=>g (k+1)) r:=let ⟨K,h⟩:=h;⟨K,fun k hk=>h (k+1) (by omega)⟩
theorem abm {a b:Int} (ha : -4611686018427387904≤a∧a≤4611686018427387904) (hb:0<b) : -4611686018427387904≤a / b∧a / b≤4611686018427387904:=by
  constructor
  · refine (Int.le_ediv_iff_mul_le hb).2 ?_
    have:(-4611686018427387904:Int)*b ≤ -4611686018427387904*1:=Int.mul_le_mul_of_nonpos_left (by omega) (by omega);omega
  · rcases Int.lt_or_le a 0 with h | h
    · have:=Int.ediv_neg_of_neg_of_pos h hb;omega
    · have:=Int.ediv_le_self b h;omega
theorem tq (x:Int) (h0:0≤x) (h1:x<18446744073709551616):IntKind.wrap .u64 (BitVec.ofInt 64 x &&& BitVec.ofInt 64 4294967295).toNat=x % 4294967296:=aeE x h0 h1
end
section
variable {p c:Int} {core:List (List Sp)} {odd:List Gn}
theorem abn (k:Nat) (a:Int) (l:List Sp) (b:Int):iE.f k a l b=some (if a<b then -1 else if a>b then 1 else 0):=by
  unfold iE.f;rw [ag5];rfl
end
variable [Inhabited WT]
variable {p c:Int} {core:List (List Sp)} {odd:List Gn}
theorem adA (lo hi:Nat) (h:hi≤4611686018427387903) (hl:lo≤hi):wq (Int.fdiv (wC .u64 (wq ((lo:Int)+(hi:Int)))) 2)=(((lo+hi) / 2:Nat):Int):=by
  rw [iJ (n:=(lo:Int)+hi) (by omega) (by omega),aam];have:IntKind.u64.wrap ((lo:Int)+hi)=(lo:Int)+hi:=by
    simp only [IntKind.wrap,IntKind.bits,IntKind.signed];simp;omega
  rw [this,Int.fdiv_eq_ediv_of_nonneg _ (by omega),iJ (by omega) (by omega)];omega
theorem tC (h:SF p c core odd) (i:Int):∃ r,Ev (fun k=>eG.f k p c core odd i) r∧afF odd i r:=by
  have hn:odd.length≤6000:=h.hlo;simp only [eG.f,abn,Option.bind_some,decide_eq_true_eq];have key:∀ (d lo hi:Nat),hi - lo=d→lo≤hi→hi≤odd.length→(∀ j (hj:j<odd.length),j<lo→odd[j].f0<i)→(∀ j (hj:j<odd.length),hi≤j→i≤odd[j].f0) →
      ∃ r,Ev (fun k=>eG.l0 (fun y=>if y<(odd.length:Int) then if 0≤y then if y<(odd.length:Int) then some (y,decide ((if (gG odd y).f0<i then (-1:Int) else if (gG odd y).f0>i then 1 else 0)=0)) else none else none else some (y,false)) odd i k (lo:Int) (hi:Int)) r∧afF odd i r:=by
    intro d;induction d using Nat.strongRecOn with
    | ind d ih =>
      intro lo hi hd hle hhn hlow hhigh;by_cases hlt:lo<hi
      · have c1:(lo:Int)<(hi:Int):=by omega
        have hm:=adA lo hi (by omega) hle;have hmid:(lo+hi) / 2<odd.length:=by omega
        have hrd:=rdG odd ((lo+hi) / 2) hmid;have c2:(0:Int)≤(((lo+hi) / 2:Nat):Int):=by omega
        have c3:(((lo+hi) / 2:Nat):Int)<(odd.length:Int):=by omega
        have hw:wq ((((lo+hi) / 2:Nat):Int)+1)=(((lo+hi) / 2+1:Nat):Int):=by rw [iJ (by omega) (by omega)];simp
        by_cases t:odd[(lo+hi) / 2].f0<i
        · obtain ⟨r,r1,r2⟩:=ih (hi - ((lo+hi) / 2+1)) (by omega) ((lo+hi) / 2+1) hi rfl (by omega) hhn (fun j hj h'=>by
            rcases Nat.lt_or_ge j ((lo+hi) / 2) with g | g
            · have:=wN h.hup hmid g;omega
            · have:j=(lo+hi) / 2:=by omega
              subst this;exact t) hhigh
          refine ⟨r,Ev.step (fun k=>rfl) ?_,r2⟩;simp only [eG.l0,eG.l0T,decide_eq_true_eq,c1,hm,c2,c3,hrd,abn,t,Option.bind_some,hw,if_true];exact Ev.yes (by omega) r1
        · obtain ⟨r,r1,r2⟩:=ih ((lo+hi) / 2 - lo) (by omega) lo ((lo+hi) / 2) rfl (by omega) (by omega) hlow (fun j hj h'=>by
            rcases Nat.lt_or_ge ((lo+hi) / 2) j with g | g
            · have:=wN h.hup hj g;omega
            · have:j=(lo+hi) / 2:=by omega
              subst this;omega)
          refine ⟨r,Ev.step (fun k=>rfl) ?_,r2⟩;have hneg:¬ (if odd[(lo+hi) / 2].f0<i then (-1:Int) else if odd[(lo+hi) / 2].f0>i then 1 else 0)<0:=by rw [if_neg t];split <;> omega
          simp only [eG.l0,eG.l0T,decide_eq_true_eq,c1,hm,c2,c3,hrd,abn,Option.bind_some,hneg,if_true,if_false];exact r1
      · have he:lo=hi:=by omega
        subst he;have c1:¬ (lo:Int)<(lo:Int):=by omega
        by_cases hlast:lo<odd.length
        · have hx:=hhigh lo hlast (by omega)
          refine ⟨((lo:Int),decide (odd[lo].f0=i)),Ev.step (f:=fun _=>some ((lo:Int),decide (odd[lo].f0=i))) (fun k => ?_) (Ev.now _),?_⟩
          · have c2:(lo:Int)<(odd.length:Int):=by omega
            have c3:(0:Int)≤(lo:Int):=by omega
            have c4:¬ odd[lo].f0<i:=by omega
            simp only [eG.l0,eG.l0T,decide_eq_true_eq,c1,c2,c3,rdG odd lo hlast,c4,if_true,if_false];by_cases g:odd[lo].f0>i
            · have:¬ odd[lo].f0=i:=by omega
              simp [g,this]
            · have:odd[lo].f0=i:=by omega
              simp [g,this]
          · refine ⟨by omega,by show (lo:Int)≤_;omega,fun j hj hl=>hlow j hj (by simp only at hl;omega),fun j hj hl=>hhigh j hj (by simp only at hl;omega),fun e=>⟨by simpa using hlast,by simpa using e⟩,fun e => ?_⟩
            rw [iT];intro g hg;obtain ⟨j,hj,rfl⟩:=List.getElem_of_mem hg;have e':¬ odd[lo].f0=i:=by simpa using e
            rcases Nat.lt_or_ge j lo with g | g
            · have:=hlow j hj g;omega
            · rcases Nat.lt_or_ge lo j with g2 | g2
              · have:=wN h.hup hj g2;omega
              · have:j=lo:=by omega
                subst this;exact e'
        · refine ⟨((lo:Int),false),Ev.step (f:=fun _=>some ((lo:Int),false)) (fun k => ?_) (Ev.now _),?_⟩
          · have c2:¬ (lo:Int)<(odd.length:Int):=by omega
            simp only [eG.l0,eG.l0T,decide_eq_true_eq,c1,c2,if_false]
          · refine ⟨by omega,by show (lo:Int)≤_;omega,fun j hj hl=>hlow j hj (by simp only at hl;omega),fun j hj hl=>hhigh j hj (by simp only at hl;omega),(fun e=>by cases e),fun e => ?_⟩
            rw [iT];intro g hg;obtain ⟨j,hj,rfl⟩:=List.getElem_of_mem hg;have:=hlow j hj (by omega);omega
  exact key _ 0 odd.length rfl (by omega) (Nat.le_refl _) (fun j hj h=>by omega) (fun j hj h=>by omega)
theorem o8 (a b:Int) (ha : -4611686018427387904≤a∧a≤4611686018427387904) (hb:0<b∧b≤4611686018427387904):Ev (fun k=>fJ.f k a b) (a / b,a % b,0):=by
  have h1:=Int.emod_nonneg a (show b≠0 by omega);have h2:=Int.emod_lt_of_pos a hb.1;have h3:=Int.mul_ediv_add_emod a b;have hq:=abm ha hb.1;have b0:¬ b=0:=by omega
  have b1:¬ b = -1:=by omega
  have bn:decide (b<0)=false:=by simp;omega
  refine Ev.congr (f:=fun _=>some (a / b,a % b,0)) (fun k => ?_) (Ev.now _);unfold fJ.f;rw [if_neg (by simpa using b0),if_neg (by simpa using b1),if_neg b0,if_neg b0];simp only [bn,Bool.not_eq_true',decide_eq_false_iff_not];have ht:=Int.tmod_add_mul_tdiv a b;rcases Int.lt_or_le a 0 with hneg | hpos
  · by_cases hz:Int.tmod a b=0
    · have hdvd:b ∣ a:=Int.dvd_of_tmod_eq_zero hz
      have e1:a % b=0:=Int.emod_eq_zero_of_dvd hdvd;have e2:Int.tdiv a b=a / b:=by
        have:b*Int.tdiv a b=b*(a / b):=by rw [hz] at ht;omega
        exact Int.eq_of_mul_eq_mul_left (by omega) this
      simp only [hz,e2,e1,not_true,if_false];rw [iJ (n:=a / b) (by omega) (by omega)]
    · have t1:Int.tmod a b≤0:=(by have h0:=Int.tmod_nonneg b (show 0 ≤ -a by omega);rw [Int.neg_tmod] at h0;omega)
      have t2 : -b<Int.tmod a b:=by
        have:=Int.lt_tmod_of_pos a hb.1;omega
      have e2:Int.tdiv a b=a / b+1:=by
        have k1:b*(a / b - Int.tdiv a b)=Int.tmod a b - a % b:=by rw [Int.mul_sub];omega
        have k2:a / b - Int.tdiv a b<0:=by
          rcases Int.lt_or_le (a / b - Int.tdiv a b) 0 with g | g
          · exact g
          · have:0≤b*(a / b - Int.tdiv a b):=Int.mul_nonneg (by omega) g
            omega
        have k3 : -2<a / b - Int.tdiv a b:=by
          rcases Int.lt_or_le (-2) (a / b - Int.tdiv a b) with g | g
          · exact g
          · have:b*(a / b - Int.tdiv a b)≤b*(-2):=Int.mul_le_mul_of_nonneg_left g (by omega)
            omega
        omega
      have e1:Int.tmod a b+b=a % b:=by
        have:b*Int.tdiv a b=b*(a / b)+b:=by rw [e2,Int.mul_add,Int.mul_one]
        omega
      have a1:Int.tmod a b<0:=by omega
      simp only [hz,a1,e2,e1,not_false_eq_true,if_true,decide_true];rw [iJ (n:=a / b+1) (by omega) (by omega),iJ (n:=a / b+1 - 1) (by omega) (by omega),iJ (n:=a % b) (by omega) (by omega)];simp
  · have e1:Int.tmod a b=a % b:=Int.tmod_eq_emod_of_nonneg hpos
    have e2:Int.tdiv a b=a / b:=Int.tdiv_eq_ediv_of_nonneg hpos;have a1:¬ a % b<0:=by omega
    simp only [e1,e2,a1,decide_false,beq_self_eq_true];rw [iJ (n:=a / b) (by omega) (by omega)];simp
theorem yA (n:Int):wC .u64 n=n % 18446744073709551616:=by rw [aam,wrap_u64]
theorem tH {n:Int} (h₀:0≤n) (h₁:n<18446744073709551616):wC .u64 n=n:=by rw [yA];omega
theorem abo (k:Nat) (a b:Int) (ha:0≤a∧a<18446744073709551616) (hb:0≤b∧b<18446744073709551616):bits_Mul64.f k a b=some (a*b / 18446744073709551616,a*b % 18446744073709551616):=by
  obtain ⟨a1,ha1⟩:∃ a1,a / 4294967296=a1:=⟨_,rfl⟩;obtain ⟨a0,ha0⟩:∃ a0,a % 4294967296=a0:=⟨_,rfl⟩;obtain ⟨b1,hb1⟩:∃ b1,b / 4294967296=b1:=⟨_,rfl⟩;obtain ⟨b0,hb0⟩:∃ b0,b % 4294967296=b0:=⟨_,rfl⟩;have ea:a=a1*4294967296+a0:=by omega
  have eb:b=b1*4294967296+b0:=by omega
  have x1:=yh a0 b0 (by omega) (by omega) (by omega) (by omega);have y1:=yh a1 b0 (by omega) (by omega) (by omega) (by omega);have z1:=yh a0 b1 (by omega) (by omega) (by omega) (by omega);have v1:=yh a1 b1 (by omega) (by omega) (by omega) (by omega);have id:a*b=a1*b1*18446744073709551616+(a1*b0+a0*b1)*4294967296+a0*b0:=by rw [ea,eb];grind
  have hN:a*b<18446744073709551616*18446744073709551616:=by
    have:=Int.mul_le_mul (show a≤18446744073709551615 by omega) (show b≤18446744073709551615 by omega) hb.1 (by omega);omega
  have fd:∀ x:Int,Int.fdiv x 4294967296=x / 4294967296:=fun x=>Int.fdiv_eq_ediv_of_nonneg _ (by omega);unfold bits_Mul64.f;simp only [fd];rw [tq a ha.1 ha.2,tq b hb.1 hb.2,ha1,ha0,hb1,hb0];rw [yA (a*b),id];rw [id] at hN;obtain ⟨x,hx⟩:∃ x,a0*b0=x:=⟨_,rfl⟩;obtain ⟨y,hy⟩:∃ y,a1*b0=y:=⟨_,rfl⟩;obtain ⟨z,hz⟩:∃ z,a0*b1=z:=⟨_,rfl⟩;obtain ⟨v,hv⟩:∃ v,a1*b1=v:=⟨_,rfl⟩;simp only [hx,hy,hz,hv] at x1 y1 z1 v1 hN ⊢;rw [tH (n:=x) (by omega) (by omega),tH (n:=y) (by omega) (by omega),tH (n:=z) (by omega) (by omega),tH (n:=v) (by omega) (by omega)];rw [tH (n:=y+x / 4294967296) (by omega) (by omega)];rw [tq (y+x / 4294967296) (by omega) (by omega)];rw [tH (n:=(y+x / 4294967296) % 4294967296+z) (by omega) (by omega)];rw [tH (n:=v+(y+x / 4294967296) / 4294967296) (by omega) (by omega)];rw [tH (n:=v+(y+x / 4294967296) / 4294967296+((y+x / 4294967296) % 4294967296+z) / 4294967296) (by omega) (by omega)];congr 1;refine Prod.ext ?_ rfl;show v+(y+x / 4294967296) / 4294967296+((y+x / 4294967296) % 4294967296+z) / 4294967296=(v*18446744073709551616+(y+z)*4294967296+x) / 18446744073709551616;omega
theorem yB (k:Nat) (a:Int) (h1 : -9223372036854775808≤a) (h2:a≤9223372036854775807):gy.f k a=some (if a<0 then -a else a):=by
  simp only [gy.f,decide_eq_true_eq,yA];by_cases h:a<0
  · rw [if_pos h,if_pos h]
    congr 1
    omega
  · rw [if_neg h,if_neg h]
    congr 1
    omega
theorem yC (k:Nat) (n:Int) (m:Bool) (h:0≤n∧n<18446744073709551616):fZ.f k n m=some (if m=true then (if n≤9223372036854775808 then (-n,0) else (0,10)) else (if n≤9223372036854775807 then (n,0) else (0,10))):=by
  cases m with
  | true =>
    simp only [fZ.f,decide_eq_true_eq,if_true];by_cases g:n≤9223372036854775808
    · have:wq (wC .u64 (0 - n)) = -n:=by rw [yQ,yA];unfold wrap64;omega
      rw [if_pos g,if_pos g,this]
    · simp [g]
  | false =>
    simp only [fZ.f,decide_eq_true_eq];by_cases g:n≤9223372036854775807
    · have:wq n=n:=iJ (by omega) g
      simp [g,this]
    · simp [g]
theorem yD (a b:Int) (ha : -9223372036854775808≤a∧a≤9223372036854775807) (hb:0≤b∧b≤9223372036854775807):Ev (fun k=>gN.f k a b) (yj a b):=by
  obtain ⟨n,hn⟩:∃ n,(if a<0 then -a else a)=n:=⟨_,rfl⟩;have hn0:0≤n∧n≤9223372036854775808:=by split at hn <;> omega
  have hb0:(if b<0 then -b else b)=b:=by rw [if_neg (by omega)]
  have hm:n*b=if a<0 then -(a*b) else a*b:=by
    rw [← hn];split
    · rw [Int.neg_mul]
    · rfl
  have hp:0≤n*b:=Int.mul_nonneg hn0.1 hb.1;have hbd:(decide (b<0))=false:=by simp;omega
  refine Ev.congr (f:=fun _=>some (yj a b)) (fun k => ?_) (Ev.now _);unfold gN.f;simp only [yB k a ha.1 ha.2,yB k b (by omega) hb.2,hn,hb0,Option.bind_some,abo k n b (by omega) (by omega),hbd,Bool.not_eq_true',decide_eq_false_iff_not];by_cases hhi:n*b / 18446744073709551616=0
  · have hlt:n*b<18446744073709551616:=by omega
    have hmod:n*b % 18446744073709551616=n*b:=by omega
    simp only [hhi,hmod,not_true,if_false];rw [yC k (n*b) _ ⟨hp,hlt⟩,Option.bind_some];by_cases hs:a<0
    · rw [if_pos hs] at hm
      simp only [hs,decide_true,hm];unfold yj;by_cases hz : -(a*b)≤9223372036854775808
      · simp [hz,show -9223372036854775808≤a*b∧a*b≤9223372036854775807 by omega]
      · simp [hz,show ¬ (-9223372036854775808≤a*b∧a*b≤9223372036854775807) by omega]
    · rw [if_neg hs] at hm
      simp only [hs,decide_false,hm];unfold yj;by_cases hz:a*b≤9223372036854775807
      · simp [hz,show -9223372036854775808≤a*b by omega]
      · simp [hz]
  · have:yj a b=(0,10):=by
      unfold yj;rw [if_neg];split at hm <;> omega
    rw [this,if_pos hhi]
end Go.Proofs.YtcomnjodjijcmaaGreat.Q

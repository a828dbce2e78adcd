/- The law FindTells: it holds at every input that its row reads. No condition of its own. -/
import Derived.Test.YtmbmalkpmanaaaaGreatYH17
import Derived.Test.YtmbmalkpmanaaaaGreatYH20
import Derived.Test.YtmbmalkpmanaaaaGreatYH18
import Derived.Test.YtmbmalkpmanaaaaGreatYH4
import Derived.Test.YtmbmalkpmanaaaaGreatYH2
import Derived.Test.YtmbmalkpmanaaaaGreatYH26
import Derived.Test.YtmbmalkpmanaaaaGreatYH23
import Derived.Test.YtmbmalkpmanaaaaGreatYH14
import Derived.Test.YtmbmalkpmanaaaaGreatYH19
import Derived.Test.YtmbmalkpmanaaaaGreatYH21
import Derived.Test.YtmbmalkpmanaaaaGreatYH22
import Derived.OpenShut
import Derived.Test.YtmbmalkpmanaaaaGreatRows
import Derived.WalkKit
import Derived.ProofKit
import Derived.ShutString
import Derived.ChangeOld
import Derived.Below
import Derived.SizedLaws
namespace Go.Proofs.YtmbmalkpmanaaaaGreat.P
set_option linter.unusedVariables false
set_option linter.unusedSimpArgs false
open Go.RowKit Go.Proofs.YtmbmalkpmanaaaaGreatW.iD Go.Proofs.YtmbmalkpmanaaaaGreatW.jw
variable {p c:Int} {core:List (List Sp)} {odd:List Gn}
theorem wX (n m:Nat) (h:n≤m) (hm:m≤1000000):wrap64 ((n:Int)+1)=((n+1:Nat):Int):=by rw [jl (by omega) (by omega)];simp
theorem yY (w:Few p c core odd):Ev (fun k=>iF.f k p c core odd) (p,c,core,odd):=by
  have lc:=w.lc;have lo:=w.lo;have k1:∀ (d n:Nat),odd.length - n=d→n≤odd.length→Ev (fun k=>iF.l1 k odd (odd.length:Int) (n:Int) p c core (odd.take n)) (p,c,core,odd):=by
    intro d;induction d with
    | zero =>
      intro n hd hn;rw [List.take_of_length_le (by omega)];refine Ev.step (f:=fun _=>some (p,c,core,odd)) (fun k=>by rw [iF.l1,if_neg (by omega)]) (Ev.now _)
    | succ d ih =>
      intro n hd hn;have hlt:n<odd.length:=by omega
      have hb:=w.ho _ (List.getElem_mem hlt);have ha:lM.f odd[n].f1=some odd[n].f1:=by unfold lM.f;rw [if_pos (by unfold many;omega)]
      have htk:odd.take n++[odd[n]]=odd.take (n+1):=(List.take_succ_eq_append_getElem hlt).symm;have hl:(odd.take n).length<4398046511104:=by simp only [List.length_take];omega
      refine Ev.step (fun k=>by rw [iF.l1,if_pos (by omega),if_pos (by omega),if_pos (by omega),rdG odd n hlt,ha,Option.bind_some,if_pos hl,wX n 8 (by omega) (by omega)]) ?_;show Ev (fun k=>iF.l1 k odd (odd.length:Int) ((n+1:Nat):Int) p c core (odd.take n++[odd[n]])) _;rw [htk];exact ih (n+1) (by omega) (by omega)
  have k0:∀ (d n:Nat),core.length - n=d→n≤core.length→Ev (fun k=>iF.l0 k core (core.length:Int) (n:Int) p c core odd p c (core.take n)) (p,c,core,odd):=by
    intro d;induction d with
    | zero =>
      intro n hd hn;rw [List.take_of_length_le (by omega)];refine Ev.step (fun k=>by rw [iF.l0,if_neg (by omega)]) ?_;simpa using k1 _ 0 rfl (by omega)
    | succ d ih =>
      intro n hd hn;have hlt:n<core.length:=by omega
      have hb:=w.hc _ (List.getElem_mem hlt);have ha:lM.f core[n]=some core[n]:=by unfold lM.f;rw [if_pos (by unfold many;omega)]
      have htk:core.take n++[core[n]]=core.take (n+1):=(List.take_succ_eq_append_getElem hlt).symm;have hl:(core.take n).length<5864062014805:=by simp only [List.length_take];omega
      refine Ev.step (fun k=>by rw [iF.l0,if_pos (by omega),if_pos (by omega),if_pos (by omega),rdL core n hlt,ha,Option.bind_some,if_pos hl,wX n 12 (by omega) (by omega),htk]) ?_;exact ih (n+1) (by omega) (by omega)
  unfold iF.f;simpa using k0 _ 0 rfl (by omega)
theorem wY (w:Few p c core odd):Ev (fun k=>gZ.f k p c core odd p c core odd) true:=by
  have lc:=w.lc;have lo:=w.lo;have al:∀ l:List Sp,l.length≤60→Ev (fun k=>jH.f k l l) true:=fun l hl=>by
    have:=ab7 l l (by omega);rwa [tV.2 rfl] at this
  have k1:∀ (d n:Nat),odd.length - n=d→n≤odd.length→Ev (fun k=>gZ.l1 k odd (odd.length:Int) (n:Int) p c core odd) true:=by
    intro d;induction d with
    | zero =>
      intro n hd hn;exact Ev.step (f:=fun _=>some true) (fun k=>by rw [gZ.l1,if_neg (by omega)]) (Ev.now _)
    | succ d ih =>
      intro n hd hn;have hlt:n<odd.length:=by omega
      have hb:=w.ho _ (List.getElem_mem hlt);refine Ev.step (fun k=>by rw [gZ.l1,if_pos (by omega),if_pos (by omega),if_pos (by omega),if_pos (by omega),if_pos rfl,rdG odd n hlt,wX n 8 (by omega) (by omega)]) ?_;exact Ev.bind (al _ hb) (Ev.yes rfl (ih (n+1) (by omega) (by omega)))
  have k0:∀ (d n:Nat),core.length - n=d→n≤core.length→Ev (fun k=>gZ.l0 k core (core.length:Int) (n:Int) p c core odd p c core odd) true:=by
    intro d;induction d with
    | zero =>
      intro n hd hn;refine Ev.step (fun k=>by rw [gZ.l0,if_neg (by omega)]) ?_;exact k1 _ 0 rfl (by omega)
    | succ d ih =>
      intro n hd hn;have hlt:n<core.length:=by omega
      have hb:=w.hc _ (List.getElem_mem hlt);refine Ev.step (fun k=>by rw [gZ.l0,if_pos (by omega),if_pos (by omega),if_pos (by omega),if_pos (by omega),rdL core n hlt,wX n 12 (by omega) (by omega)]) ?_;exact Ev.bind (al _ hb) (Ev.yes rfl (ih (n+1) (by omega) (by omega)))
  unfold gZ.f;refine Ev.yes rfl (Ev.yes rfl (Ev.yes rfl ?_));refine Ev.step (fun k=>by rw [gZ.j0,if_neg (by simp)]) ?_;exact k0 _ 0 rfl (by omega)
structure yZ (p:Int) (core:List (List Sp)) (odd:List Gn):Prop where
  hc:∀ l∈core,l≠[] → -100≤oq l∧oh l≤100
  ho:∀ g∈odd,-100≤g.f0∧g.f0≤100
  hp:p≤200
theorem adR (w:Few p c core odd):∃ b,Ev (fun k=>jc.f k p c core odd) b∧(b=true→yZ p core odd):=by
  have lc:=w.lc;have lo:=w.lo;have k1:∀ (d n:Nat),odd.length - n=d→n≤odd.length→∃ b,Ev (fun k=>jc.l1 k odd (odd.length:Int) (n:Int) p c core odd) b∧(b=true→p≤200∧∀ (j:Nat) (hj:j<odd.length),n≤j → -100≤odd[j].f0∧odd[j].f0≤100):=by
    intro d;induction d with
    | zero =>
      intro n hd hn;exact ⟨decide (p≤200),Ev.step (f:=fun _=>some (decide (p≤200))) (fun k=>by rw [jc.l1,if_neg (by omega)]) (Ev.now _),fun e=>⟨of_decide_eq_true e,fun j hj ab=>by omega⟩⟩
    | succ d ih =>
      intro n hd hn;have hlt:n<odd.length:=by omega
      obtain ⟨b,b1,b2⟩:=ih (n+1) (by omega) (by omega);by_cases g1:odd[n].f0 < -100
      · exact ⟨false,Ev.step (f:=fun _=>some false) (fun k=>by rw [jc.l1,if_pos (by omega),if_pos (by omega),if_pos (by omega),rdG odd n hlt,if_pos g1]) (Ev.now _),fun e=>by cases e⟩
      · by_cases g2:odd[n].f0>100
        · exact ⟨false,Ev.step (f:=fun _=>some false) (fun k=>by rw [jc.l1,if_pos (by omega),if_pos (by omega),if_pos (by omega),rdG odd n hlt,if_neg g1,if_pos g2]) (Ev.now _),fun e=>by cases e⟩
        · refine ⟨b,Ev.step (fun k=>by rw [jc.l1,if_pos (by omega),if_pos (by omega),if_pos (by omega),rdG odd n hlt,if_neg g1,if_neg g2,wX n 8 (by omega) (by omega)]) b1,fun e=>⟨(b2 e).1,fun j hj ab => ?_⟩⟩
          rcases Nat.lt_or_ge n j with g | g
          · exact (b2 e).2 j hj g
          · have:j=n:=by omega
            subst this;omega
  have k0:∀ (d n:Nat),core.length - n=d→n≤core.length→∃ b,Ev (fun k=>jc.l0 k core (core.length:Int) (n:Int) p c core odd) b∧(b=true→(p≤200∧∀ (j:Nat) (hj:j<odd.length),-100≤odd[j].f0∧odd[j].f0≤100)∧∀ (j:Nat) (hj:j<core.length),n≤j→core[j]≠[] → -100≤oq core[j]∧oh core[j]≤100):=by
    intro d;induction d with
    | zero =>
      intro n hd hn;obtain ⟨b,b1,b2⟩:=k1 _ 0 rfl (by omega);exact ⟨b,Ev.step (fun k=>by rw [jc.l0,if_neg (by omega)];rfl) b1,fun e=>⟨⟨(b2 e).1,fun j hj=>(b2 e).2 j hj (by omega)⟩,fun j hj ab=>by omega⟩⟩
    | succ d ih =>
      intro n hd hn;have hlt:n<core.length:=by omega
      have hb:=w.hc _ (List.getElem_mem hlt);obtain ⟨b,b1,b2⟩:=ih (n+1) (by omega) (by omega);have aa:jh.f core[n]=some (aak core[n]):=oQ _ (by omega);rw [mQ] at aa;have fin:∀ e:b=true,(core[n]≠[] → -100≤oq core[n]∧oh core[n]≤100)→(p≤200∧∀ (j:Nat) (hj:j<odd.length),-100≤odd[j].f0∧odd[j].f0≤100)∧∀ (j:Nat) (hj:j<core.length),n≤j→core[j]≠[] → -100≤oq core[j]∧oh core[j]≤100:=fun e hx=>⟨(b2 e).1,fun j hj ab=>by
        rcases Nat.lt_or_ge n j with g | g
        · exact (b2 e).2 j hj g
        · have:j=n:=by omega
          subst this;exact hx⟩
      by_cases hz:core[n]=[]
      · rw [if_pos hz] at aa
        exact ⟨b,Ev.step (fun k=>by rw [jc.l0,if_pos (by omega),if_pos (by omega),if_pos (by omega),rdL core n hlt,aa,Option.bind_some,if_neg (by simp),wX n 12 (by omega) (by omega)]) b1,fun e=>fin e (fun q=>absurd hz q)⟩
      · rw [if_neg hz] at aa
        by_cases g1:oq core[n] < -100
        · exact ⟨false,Ev.step (f:=fun _=>some false) (fun k=>by rw [jc.l0,if_pos (by omega),if_pos (by omega),if_pos (by omega),rdL core n hlt,aa,Option.bind_some,if_pos rfl,if_pos g1]) (Ev.now _),fun e=>by cases e⟩
        · by_cases g2:oh core[n]>100
          · exact ⟨false,Ev.step (f:=fun _=>some false) (fun k=>by rw [jc.l0,if_pos (by omega),if_pos (by omega),if_pos (by omega),rdL core n hlt,aa,Option.bind_some,if_pos rfl,if_neg g1,if_pos g2]) (Ev.now _),fun e=>by cases e⟩
          · exact ⟨b,Ev.step (fun k=>by rw [jc.l0,if_pos (by omega),if_pos (by omega),if_pos (by omega),rdL core n hlt,aa,Option.bind_some,if_pos rfl,if_neg g1,if_neg g2,wX n 12 (by omega) (by omega)]) b1,fun e=>fin e (fun _=>⟨by omega,by omega⟩)⟩
  obtain ⟨b,b1,b2⟩:=k0 _ 0 rfl (by omega);refine ⟨b,b1,fun e=>⟨fun l hm hn => ?_,fun g hm => ?_,(b2 e).1.1⟩⟩
  · obtain ⟨j,hj,rfl⟩:=List.getElem_of_mem hm
    exact (b2 e).2 j hj (by omega) hn
  · obtain ⟨j,hj,rfl⟩:=List.getElem_of_mem hm
    exact (b2 e).1.2 j hj
theorem twelve {c:Int} (h:1≤c∧c≤12):c=1∨c=2∨c=3∨c=4∨c=5∨c=6∨c=7∨c=8∨c=9∨c=10∨c=11∨c=12:=by omega
theorem zI (i:Int) {c:Int} (h:1≤c∧c≤12):(6000<i→500≤i / c)∧(i < -6000→i / c ≤ -501)∧(-6000≤i→i≤6000 → -6000≤i / c∧i / c≤6000):=by
  rcases twelve h with rfl | rfl | rfl | rfl | rfl | rfl | rfl | rfl | rfl | rfl | rfl | rfl <;> omega
theorem ac1 (i:Int) {c:Int} (h:1≤c∧c≤12):(i % c+c*300) / c=300∧(i % c+c*300) % c=i % c∧(i % c+c*(-300)) / c = -300∧(i % c+c*(-300)) % c=i % c∧100<i % c+c*300∧i % c+c*300≤6000 ∧ -6000≤i % c+c*(-300)∧i % c+c*(-300) < -100:=by
  rcases twelve h with rfl | rfl | rfl | rfl | rfl | rfl | rfl | rfl | rfl | rfl | rfl | rfl <;> omega
theorem aeG (a:Int) {c:Int} (h:1≤c∧c≤12) (ha : -6000≤a∧a≤6000):mY.f a c=some (a / c,a % c):=by
  unfold mY.f;rw [if_neg (by omega)];rcases Int.lt_or_le a 0 with g | g
  · obtain ⟨n,rfl⟩:∃ n,a = -n:=⟨-a,by omega⟩
    rw [Int.neg_tmod,Int.neg_tdiv,Int.tmod_eq_emod_of_nonneg (by omega),Int.tdiv_eq_ediv_of_nonneg (by omega)];rcases twelve h with rfl | rfl | rfl | rfl | rfl | rfl | rfl | rfl | rfl | rfl | rfl | rfl <;>
    · split
      · rw [jl (n := -(n / _)) (by omega) (by omega),jl (by omega) (by omega),jl (by omega) (by omega)]
        congr 2 <;> omega
      · rw [jl (by omega) (by omega)]
        congr 2 <;> omega
  · rw [Int.tmod_eq_emod_of_nonneg g,Int.tdiv_eq_ediv_of_nonneg g]
    rcases twelve h with rfl | rfl | rfl | rfl | rfl | rfl | rfl | rfl | rfl | rfl | rfl | rfl <;>
    · rw [if_neg (by omega),jl (by omega) (by omega)]
theorem aeH {q p:Int} (hq:0≤q) (hp:1≤p):q≤q*p:=by
  have:=Int.mul_le_mul_of_nonneg_left hp hq;rwa [Int.mul_one] at this
theorem afc {q p:Int} (hq:q≤0) (hp:1≤p):q*p≤q:=by
  have:=aeH (q := -q) (by omega) hp;rw [Int.neg_mul] at this;omega
theorem Few.c12 (w:Few p c core odd) (hc:c≠0):1≤c∧c≤12∧1≤p:=by
  have h1:=w.ok.s.hc;have h2:=w.lc;have h3:=w.ok.s.hz;have h4:=w.ok.s.hp0;have h5:p≠0:=fun q=>hc (h3.2 q);omega
theorem ac2 (w:Few p c core odd) (nr:yZ p core odd) {i:Int} (hn:fs c core odd i≠[]) (hi:i < -100∨100<i):lX odd i=none∧c≠0∧fs c core odd i=jZ c core i∧fb p c odd i=i / c*p ∧ -100≤oq (fs c core odd i)∧oh (fs c core odd i)≤100:=by
  have ho:lX odd i=none:=by
    rw [pK];intro g hg e;have:=nr.ho g hg;omega
  have e1:fs c core odd i=jZ c core i:=by unfold fs;rw [ho]
  have e2:fb p c odd i=i / c*p:=by unfold fb;rw [ho]
  rw [e1] at hn;have hc:c≠0:=fun q=>hn (by unfold jZ;rw [if_pos q]);have:=nr.hc _ (w.ok.s.pO i hc) hn;exact ⟨ho,hc,e1,e2,by rw [e1];exact this.1,by rw [e1];exact this.2⟩
theorem ac3 (w:Few p c core odd) (nr:yZ p core odd) {i:Int} (hn:fs c core odd i≠[]) (hi:6000<i):300<gLo p c core odd i:=by
  obtain ⟨_,hc,_,e2,e3,_⟩:=ac2 w nr hn (.inr (by omega));obtain ⟨c1,c2,c3⟩:=w.c12 hc;have:=(zI i ⟨c1,c2⟩).1 hi;have:=aeH (q:=i / c) (by omega) c3;unfold gLo;rw [e2];omega
theorem ac4 (w:Few p c core odd) (nr:yZ p core odd) {i:Int} (hn:fs c core odd i≠[]) (hi:i < -6000):gHi p c core odd i < -300:=by
  obtain ⟨_,hc,_,e2,_,e4⟩:=ac2 w nr hn (.inl (by omega));obtain ⟨c1,c2,c3⟩:=w.c12 hc;have:=(zI i ⟨c1,c2⟩).2.1 hi;have:=afc (q:=i / c) (by omega) c3;unfold gHi;rw [e2];omega
theorem zJ (w:Few p c core odd) (nr:yZ p core odd) {i j:Int} (hi:i < -100∨100<i) (hj:j < -100∨100<j) (hn:fs c core odd i≠[]) (hij:j % c=i % c):fs c core odd j≠[]:=by
  obtain ⟨_,hc,e1,_⟩:=ac2 w nr hn hi;have ho:lX odd j=none:=by
    rw [pK];intro g hg e;have:=nr.ho g hg;omega
  have e2:fs c core odd j=jZ c core j:=by unfold fs;rw [ho]
  rw [e1] at hn;rw [e2];unfold jZ at hn ⊢;rw [if_neg hc] at hn ⊢;rw [hij];exact hn
theorem abH (w:Few p c core odd) (nr:yZ p core odd) {i:Int} (hn:fs c core odd i≠[]) (hi:i < -100∨100<i) (h6 : -6000≤i∧i≤6000):Ex p c core odd i:=by
  obtain ⟨_,hc,e1,e2,e3,e4⟩:=ac2 w nr hn hi;obtain ⟨c1,c2,c3⟩:=w.c12 hc;have hq:=(zI i ⟨c1,c2⟩).2.2 h6.1 h6.2;have hp:=nr.hp;have b1:i / c*p≤6000*p:=Int.mul_le_mul_of_nonneg_right hq.2 (by omega);have b2 : -6000*p≤i / c*p:=Int.mul_le_mul_of_nonneg_right hq.1 (by omega);have:=(SL.ends (w.ok.s.vG i) hn).2.1;refine ⟨by unfold inR;omega,hn,?_,?_⟩
  · unfold gLo;rw [e2];omega
  · unfold gHi;rw [e2];omega
theorem acw (w:Few p c core odd) (nr:yZ p core odd) {t:Int} (ht : -200≤t∧t≤200) {r:Int × Bool} (s:FrU p c core odd t r) (hr:r.2=true) : -6000≤r.1∧r.1≤6000:=by
  obtain ⟨e,h1,h2⟩:=s.y hr;constructor
  · refine Classical.byContradiction fun g => ?_
    have:=ac4 w nr e.n (by omega);omega
  · refine Classical.byContradiction fun g => ?_
    obtain ⟨_,hc,_⟩:=ac2 w nr e.n (.inr (by omega));obtain ⟨c1,c2,c3⟩:=w.c12 hc;obtain ⟨m1,m2,_,_,m5,m6,_,_⟩:=ac1 r.1 ⟨c1,c2⟩;have hn:=zJ w nr (i:=r.1) (j:=r.1 % c+c*300) (.inr (by omega)) (.inr m5) e.n m2;obtain ⟨_,_,_,q2,q3,_⟩:=ac2 w nr hn (.inr m5);have ex:=abH w nr hn (.inr m5) ⟨by omega,m6⟩;have lh:=w.ok.s.oP hn;rw [m1] at q2;have:=h2 _ ex (by
      have:gLo p c core odd (r.1 % c+c*300)=oq (fs c core odd (r.1 % c+c*300))+300*p:=by unfold gLo;rw [q2]
      omega)
    omega
theorem acy (w:Few p c core odd) (nr:yZ p core odd) {t:Int} (ht : -200≤t∧t≤200) {r:Int × Bool} (s:TlD p c core odd t r) (hr:r.2=true) : -6000≤r.1∧r.1≤6000:=by
  obtain ⟨e,h1,h2⟩:=s.y hr;constructor
  · refine Classical.byContradiction fun g => ?_
    obtain ⟨_,hc,_⟩:=ac2 w nr e.n (.inl (by omega));obtain ⟨c1,c2,c3⟩:=w.c12 hc;obtain ⟨_,_,m3,m4,_,_,m7,m8⟩:=ac1 r.1 ⟨c1,c2⟩;have hn:=zJ w nr (i:=r.1) (j:=r.1 % c+c*(-300)) (.inl (by omega)) (.inl m8) e.n m4;obtain ⟨_,_,_,q2,_,q4⟩:=ac2 w nr hn (.inl m8);have ex:=abH w nr hn (.inl m8) ⟨m7,by omega⟩;have lh:=w.ok.s.oP hn;rw [m3] at q2;have:=h2 _ ex (by
      have:gHi p c core odd (r.1 % c+c*(-300))=oh (fs c core odd (r.1 % c+c*(-300))) + -300*p:=by unfold gHi;rw [q2]
      omega)
    omega
  · refine Classical.byContradiction fun g => ?_
    have:=ac3 w nr e.n (by omega);omega
theorem ac5 (w:Few p c core odd) (nr:yZ p core odd) {t i:Int} (ht : -300≤t∧t≤300) (e:Ex p c core odd i) (hx:lY (gT p c core odd i) t=true) : -6000≤i∧i≤6000:=by
  have:=rA w.ok.s e hx;constructor
  · refine Classical.byContradiction fun g => ?_
    have:=ac4 w nr e.n (by omega);omega
  · refine Classical.byContradiction fun g => ?_
    have:=ac3 w nr e.n (by omega);omega
theorem za (w:Few p c core odd) {i:Int} (hi : -6000≤i∧i≤6000):∃ q,Ev (fun k=>ko.f k p c core odd i) (fs c core odd i,q)∧fb p c odd i=q*p∧(c=0→q=0) ∧ -6000≤q∧q≤6000:=by
  have lo:=w.lo;have hcl:=w.ok.s.hc;refine ⟨match lX odd i with | some _=>0 | none=>i / c,?_,?_,?_,?_⟩
  · have key:∀ (post pre:List Gn),odd=pre++post→Ev (fun k=>ko.l0 k i (pre.length:Int) p c core odd) (match lX post i with | some l=>(l,0) | none=>(jZ c core i,i / c)):=by
      intro post;induction post with
      | nil =>
        intro pre he;rw [List.append_nil] at he;subst he;refine Ev.step (fun k=>by rw [ko.l0,if_neg (by omega)]) ?_;by_cases hc:c=0
        · refine Ev.yes hc ?_
          have e1:jZ c core i=[]:=by unfold jZ;rw [if_pos hc]
          show Ev _ (jZ c core i,i / c);rw [e1,hc,Int.ediv_zero];exact Ev.now _
        · refine Ev.no hc ?_
          obtain ⟨c1,c2,_⟩:=w.c12 hc;have m1:=Int.emod_nonneg i hc;have m2:=Int.emod_lt_of_pos i (show 0<c by omega);refine Ev.bind (Ev.val (aeG i ⟨c1,c2⟩ hi)) (Ev.yes m1 (Ev.yes (by show i % c<_;omega) ?_));show Ev _ (jZ c core i,i / c);have e1:jZ c core i=jr core (i % c):=by
            unfold jZ;rw [if_neg hc,afr core _ (by omega),List.getD_eq_getElem?_getD,List.getElem?_eq_getElem (by omega)];rfl
          rw [e1];exact Ev.now _
      | cons g r ih =>
        intro pre he;have hlt:pre.length<odd.length:=by rw [he];simp
        have hg:gW odd (pre.length:Int)=g:=by rw [rdG odd _ hlt];simp [he]
        by_cases hx:g.f0=i
        · have e1:lX (g :: r) i=some g.f1:=by show (if g.f0=i then some g.f1 else lX r i)=_;rw [if_pos hx]
          rw [e1];exact Ev.step (f:=fun _=>some (g.f1,0)) (fun k=>by rw [ko.l0,if_pos (by omega),if_pos (by omega),hg,if_pos hx]) (Ev.now _)
        · have e1:lX (g :: r) i=lX r i:=by show (if g.f0=i then some g.f1 else lX r i)=_;rw [if_neg hx]
          rw [e1];refine Ev.step (fun k=>by rw [ko.l0,if_pos (by omega),if_pos (by omega),hg,if_neg hx,wX pre.length 8 (by omega) (by omega)]) ?_;have:=ih (pre++[g]) (by rw [he];simp);simpa using this
    have:=key odd [] rfl;unfold ko.f fs;revert this;cases lX odd i <;> exact fun h=>h
  · unfold fb;cases lX odd i <;> simp
  · intro hc;cases lX odd i
    · rw [hc];exact Int.ediv_zero _
    · rfl
  · cases lX odd i
    · by_cases hc:c=0
      · show -6000≤i / c∧i / c≤6000
        rw [hc,Int.ediv_zero];omega
      · obtain ⟨c1,c2,_⟩:=w.c12 hc
        exact (zI i ⟨c1,c2⟩).2.2 hi.1 hi.2
    · show (-6000:Int)≤0∧(0:Int)≤6000
      omega
theorem aeI (l:List Sp):l.map (oH 0)=l:=by
  induction l with
  | nil=>rfl
  | cons s r ih=>rw [List.map_cons,ih];unfold oH;simp
theorem qK (w:Few p c core odd) (nr:yZ p core odd) {i:Int} (hi : -6000≤i∧i≤6000):Ev (fun k=>iX.f k p c core odd i) (mZ p c core odd i):=by
  obtain ⟨q,q1,q2,q3,q4,q5⟩:=za w hi;have hfl:=w.fs i;have hinr:inR i:=by unfold inR;omega
  unfold iX.f;refine Ev.no (by omega) ?_;rw [decide_eq_false (show ¬ i>1099511627776 by omega)];refine Ev.step (fun k=>by rw [iX.j0,if_neg (by simp)]) ?_;refine Ev.bind q1 ?_;have aa:∀ l:List Sp,l.length≤60→Ev (fun k=>iX.j1 k l q true p c core odd) (l,0):=fun l hl=>by
    refine Ev.step (fun k=>by rw [iX.j1,if_pos rfl]) ?_;exact Ev.bind (a:=[]) (Ev.now _) (Ev.yes (by simp only [List.length_nil];omega) (Ev.now _))
  by_cases hz:fs c core odd i=[]
  · have e:mZ p c core odd i=([],0):=by unfold mZ;rw [if_pos hinr,if_pos hz]
    rw [e,hz];exact Ev.yes rfl (aa [] (by simp))
  · refine Ev.no (by have:=List.length_pos_iff.2 hz;show ¬ ((fs c core odd i).length:Int)=0;omega) ?_
    have hV:mZ p c core odd i=qI (q*p) (fs c core odd i):=by unfold mZ;rw [if_pos hinr,if_neg hz,q2]
    rw [hV];by_cases hq:q=0
    · have e:qI (q*p) (fs c core odd i)=(fs c core odd i,0):=by
        have hs:=w.ok.s.vG i;rw [hq,Int.zero_mul];unfold qI;rw [if_pos ((hs.qZ hz).2 ⟨by have:=(SL.ends hs hz).1;omega,by have:=(SL.ends hs hz).2.2;omega⟩),aeI]
      rw [e];show Ev (fun k=>iX.j1 k (fs c core odd i) q (q==0) p c core odd) _;rw [beq_iff_eq.2 hq];exact aa _ hfl
    · have hc:c≠0:=fun e=>hq (q3 e)
      obtain ⟨c1,c2,c3⟩:=w.c12 hc;have hp:=nr.hp;show Ev (fun k=>iX.j1 k (fs c core odd i) q (q==0) p c core odd) _;rw [beq_eq_false_iff_ne.2 hq];have d1:(10000000000:Int)≤2199023255552 / p:=Int.le_ediv_of_mul_le (by omega) (by omega);have d0:Int.tdiv 2199023255552 p=2199023255552 / p:=Int.tdiv_eq_ediv_of_nonneg (by omega);have d2:(2199023255552:Int) / p≤2199023255552:=Int.ediv_le_self _ (by omega);have b1:q*p≤6000*p:=Int.mul_le_mul_of_nonneg_right q5 (by omega);have b2 : -6000*p≤q*p:=Int.mul_le_mul_of_nonneg_right q4 (by omega);have w1:wrap64 (2199023255552 / p)=2199023255552 / p:=jl (by omega) (by omega);have w2:wrap64 (-(2199023255552 / p)) = -(2199023255552 / p):=jl (by omega) (by omega);have w3:wrap64 (2199023255552 / p+1)=2199023255552 / p+1:=jl (by omega) (by omega);have w4:wrap64 (-(2199023255552 / p) - 1) = -(2199023255552 / p) - 1:=jl (by omega) (by omega);have w5:wrap64 (q*p)=q*p:=jl (by omega) (by omega);refine Ev.step (fun k=>by rw [iX.j1,if_neg (by simp),if_neg (by omega),d0,w1,w3,if_neg (by omega),w2,w4,if_neg (by omega),w5]) ?_;exact Ev.bind (aas _ _ (w.ok.s.vG i) ⟨by omega,by omega⟩) (Ev.now _)
theorem sQ (w:Few p c core odd) (i:Int) (hi:inR i):(Ex p c core odd i∧mZ p c core odd i=(gT p c core odd i,0))∨(¬ Ex p c core odd i∧(mZ p c core odd i).1=[]):=by
  by_cases e:Ex p c core odd i
  · exact .inl ⟨e,w.ok.s.qJ e⟩
  · refine .inr ⟨e,?_⟩
    by_cases hz:fs c core odd i=[]
    · unfold mZ;rw [if_pos hi,if_pos hz]
    · rw [w.ok.s.uZ hz e]
theorem abI (i:Int) (h : -6000≤i∧i≤6000):wrap64 (i+1)=i+1∧wrap64 (i - 1)=i - 1:=⟨jl (by omega) (by omega),jl (by omega) (by omega)⟩
theorem acz (w:Few p c core odd) (nr:yZ p core odd) {t:Int} (ht : -200≤t∧t≤200) {r:Int × Bool} (s:AtS p c core odd t r):Ev (fun k=>kg.f k p c core odd t (-6000) 6000) r:=by
  have hw:r.2=true → -6000≤r.1∧r.1≤6000:=fun e=>ac5 w nr ⟨by omega,by omega⟩ (s.y e).1 (s.y e).2;have key:∀ (d:Nat) (i:Int),(6001 - i).toNat=d → -6000≤i→i≤6001→(r.2=true→i≤r.1)→Ev (fun k=>kg.l0 k t 6000 i p c core odd) r:=by
    intro d;induction d with
    | zero =>
      intro i hd h1 h2 h3;have hr:r.2=false:=by
        cases hr:r.2 with
        | false=>rfl
        | true=>have:=h3 hr;have:=hw hr;omega
      have e:r=(0,false):=Prod.ext (s.n hr).1 hr;rw [e];exact Ev.step (f:=fun _=>some (0,false)) (fun k=>by rw [kg.l0,if_neg (by omega)]) (Ev.now _)
    | succ d ih =>
      intro i hd h1 h2 h3;have g:=qK w nr (i:=i) ⟨h1,by omega⟩;have nx:(r≠(i,true))→Ev (fun k=>kg.l0 k t 6000 (wrap64 (i+1)) p c core odd) r:=fun hne=>by
        rw [(abI i ⟨h1,by omega⟩).1];refine ih (i+1) (by omega) (by omega) (by omega) (fun e => ?_);have:=h3 e;rcases Int.lt_or_le i r.1 with q | q
        · omega
        · exact absurd (Prod.ext (by show r.1=i;omega) e) hne
      refine Ev.step (fun k=>by rw [kg.l0,if_pos (by omega)]) ?_;refine Ev.bind g ?_;rcases sQ w i (by unfold inR;omega) with ⟨e,hv⟩ | ⟨e,hv⟩
      · rw [hv]
        have hl:(gT p c core odd i).length≤60:=by unfold gT;rw [List.length_map];exact w.fs i
        refine Ev.yes rfl (Ev.bind (sJ _ t (by show (gT p c core odd i).length≤_;omega)) ?_);by_cases hx:lY (gT p c core odd i) t=true
        · refine Ev.yes hx ?_
          rw [at_at w.ok s e hx];exact Ev.now _
        · refine Ev.no hx (nx fun q => ?_)
          rw [q] at s;exact hx (s.y rfl).2
      · have hne:r≠(i,true):=fun q=>by rw [q] at s;exact e (s.y rfl).1
        by_cases h0:(mZ p c core odd i).2=0
        · refine Ev.yes h0 (Ev.bind (sJ _ t (by rw [hv];simp)) ?_)
          rw [hv,oo];exact Ev.no (by simp) (nx hne)
        · exact Ev.no h0 (nx hne)
  unfold kg.f;exact key _ (-6000) rfl (by omega) (by omega) (fun e=>(hw e).1)
theorem aat (w:Few p c core odd) (nr:yZ p core odd) {t:Int} (ht : -200≤t∧t≤200) {r:Int × Bool} (s:FrU p c core odd t r):Ev (fun k=>jI.f k p c core odd t (-6000) 6000) r:=by
  have hw:r.2=true → -6000≤r.1∧r.1≤6000:=acw w nr ht s;have key:∀ (d:Nat) (i:Int),(6001 - i).toNat=d → -6000≤i→i≤6001→(r.2=true→i≤r.1)→Ev (fun k=>jI.l0 k t 6000 i p c core odd) r:=by
    intro d;induction d with
    | zero =>
      intro i hd h1 h2 h3;have hr:r.2=false:=by
        cases hr:r.2 with
        | false=>rfl
        | true=>have:=h3 hr;have:=hw hr;omega
      have e:r=(0,false):=Prod.ext (s.n hr).1 hr;rw [e];exact Ev.step (f:=fun _=>some (0,false)) (fun k=>by rw [jI.l0,if_neg (by omega)]) (Ev.now _)
    | succ d ih =>
      intro i hd h1 h2 h3;have g:=qK w nr (i:=i) ⟨h1,by omega⟩;have nx:(r≠(i,true))→Ev (fun k=>jI.l0 k t 6000 (wrap64 (i+1)) p c core odd) r:=fun hne=>by
        rw [(abI i ⟨h1,by omega⟩).1];refine ih (i+1) (by omega) (by omega) (by omega) (fun e => ?_);have:=h3 e;rcases Int.lt_or_le i r.1 with q | q
        · omega
        · exact absurd (Prod.ext (by show r.1=i;omega) e) hne
      refine Ev.step (fun k=>by rw [jI.l0,if_pos (by omega)]) ?_;refine Ev.bind g ?_;rcases sQ w i (by unfold inR;omega) with ⟨e,hv⟩ | ⟨e,hv⟩
      · rw [hv]
        have hl:(gT p c core odd i).length≤60:=by unfold gT;rw [List.length_map];exact w.fs i
        obtain ⟨t1,_,t3⟩:=sO (p:=p) (c:=c) (core:=core) (odd:=odd) e.n;obtain ⟨y1,y2,y3⟩:=acV _ t1 (by omega);refine Ev.yes rfl (Ev.yes (by have:=List.length_pos_iff.2 t1;show ((gT p c core odd i).length:Int)>0;omega) ?_);dsimp only;rw [y1];refine Ev.yes y2 (Ev.yes (by omega) ?_);rw [y3,t3];by_cases hx:gHi p c core odd i≥t
        · refine Ev.yes hx ?_
          have e1:r.2=true:=by
            cases hr:r.2 with
            | true=>rfl
            | false=>exact absurd hx ((s.n hr).2 i e)
          have:=(s.y e1).2.2 i e hx;have:=h3 e1;have e2:r=(i,true):=Prod.ext (by show r.1=i;omega) e1;rw [e2];exact Ev.now _
        · refine Ev.no hx (nx fun q => ?_)
          rw [q] at s;exact hx (s.y rfl).2.1
      · have hne:r≠(i,true):=fun q=>by rw [q] at s;exact e (s.y rfl).1
        by_cases h0:(mZ p c core odd i).2=0
        · exact Ev.yes h0 (Ev.no (by rw [hv];simp) (nx hne))
        · exact Ev.no h0 (nx hne)
  unfold jI.f;exact key _ (-6000) rfl (by omega) (by omega) (fun e=>(hw e).1)
theorem aau (w:Few p c core odd) (nr:yZ p core odd) {t:Int} (ht : -200≤t∧t≤200) {r:Int × Bool} (s:TlD p c core odd t r):Ev (fun k=>jP.f k p c core odd t (-6000) 6000) r:=by
  have hw:r.2=true → -6000≤r.1∧r.1≤6000:=acy w nr ht s;have key:∀ (d:Nat) (i:Int),(i+6001).toNat=d → -6001≤i→i≤6000→(r.2=true→r.1≤i)→Ev (fun k=>jP.l0 k t (-6000) i p c core odd) r:=by
    intro d;induction d with
    | zero =>
      intro i hd h1 h2 h3;have hr:r.2=false:=by
        cases hr:r.2 with
        | false=>rfl
        | true=>have:=h3 hr;have:=hw hr;omega
      have e:r=(0,false):=Prod.ext (s.n hr).1 hr;rw [e];exact Ev.step (f:=fun _=>some (0,false)) (fun k=>by rw [jP.l0,if_neg (by omega)]) (Ev.now _)
    | succ d ih =>
      intro i hd h1 h2 h3;have g:=qK w nr (i:=i) ⟨by omega,h2⟩;have nx:(r≠(i,true))→Ev (fun k=>jP.l0 k t (-6000) (wrap64 (i - 1)) p c core odd) r:=fun hne=>by
        rw [(abI i ⟨by omega,h2⟩).2];refine ih (i - 1) (by omega) (by omega) (by omega) (fun e => ?_);have:=h3 e;rcases Int.lt_or_le r.1 i with q | q
        · omega
        · exact absurd (Prod.ext (by show r.1=i;omega) e) hne
      refine Ev.step (fun k=>by rw [jP.l0,if_pos (by omega)]) ?_;refine Ev.bind g ?_;rcases sQ w i (by unfold inR;omega) with ⟨e,hv⟩ | ⟨e,hv⟩
      · rw [hv]
        obtain ⟨t1,t2,_⟩:=sO (p:=p) (c:=c) (core:=core) (odd:=odd) e.n;obtain ⟨y1,y2⟩:=abp _ t1;refine Ev.yes rfl (Ev.yes (by show ((gT p c core odd i).length:Int)>0;omega) (Ev.yes (by show 0<((gT p c core odd i).length:Int);omega) ?_));show Ev (fun k=>if (gN (gT p c core odd i) 0).f0≤t then _ else _) _;rw [y2,t2];by_cases hx:gLo p c core odd i≤t
        · refine Ev.yes hx ?_
          have e1:r.2=true:=by
            cases hr:r.2 with
            | true=>rfl
            | false=>exact absurd hx ((s.n hr).2 i e)
          have:=(s.y e1).2.2 i e hx;have:=h3 e1;have e2:r=(i,true):=Prod.ext (by show r.1=i;omega) e1;rw [e2];exact Ev.now _
        · refine Ev.no hx (nx fun q => ?_)
          rw [q] at s;exact hx (s.y rfl).2.1
      · have hne:r≠(i,true):=fun q=>by rw [q] at s;exact e (s.y rfl).1
        by_cases h0:(mZ p c core odd i).2=0
        · exact Ev.yes h0 (Ev.no (by rw [hv];simp) (nx hne))
        · exact Ev.no h0 (nx hne)
  unfold jP.f;exact key _ 6000 rfl (by omega) (by omega) (fun e=>(hw e).2)
theorem ze {z:List Int} (hz:z.Pairwise (· < ·)) (i:Int):z.filter (fun j=>decide (j<i+1))=if i∈z then z.filter (fun j=>decide (j<i))++[i] else z.filter (fun j=>decide (j<i)):=by
  by_cases hi:i∈z
  · rw [if_pos hi]
    refine abE (hz.filter _) ?_ (fun x => ?_)
    · rw [List.pairwise_append]
      refine ⟨hz.filter _,List.pairwise_singleton _ _,fun a ha b hb => ?_⟩;have:=(List.mem_filter.1 ha).2;have hb:=List.mem_singleton.1 hb;have:=of_decide_eq_true this;omega
    · simp only [List.mem_filter,List.mem_append,List.mem_singleton,decide_eq_true_eq]
      constructor
      · rintro ⟨h1,h2⟩
        rcases Int.lt_or_le x i with g | g
        · exact .inl ⟨h1,g⟩
        · exact .inr (by omega)
      · rintro (⟨h1,h2⟩ | h1)
        · exact ⟨h1,by omega⟩
        · exact ⟨h1 ▸ hi,by omega⟩
  · rw [if_neg hi]
    refine List.filter_congr (fun x hx => ?_);have:x≠i:=fun q=>hi (q ▸ hx);rw [decide_eq_decide];omega
theorem aav (w:Few p c core odd) (nr:yZ p core odd) {b:List Sp} (hs:SL (-1099511627776) 1099511627776 b) (hl:b.length≤1000) (hb:b≠[] → -300≤oq b∧oh b≤300) {z:List Int} (hz:z.Pairwise (· < ·)) (hlen:z.length≤60000) (hm:∀ i,i∈z↔Ex p c core odd i∧uw (gT p c core odd i) b=true) :
    Ev (fun k=>jJ.f k p c core odd b (-6000) 6000) z:=by
  have hw:∀ i∈z,-6000≤i∧i≤6000:=fun i hi=>by
    obtain ⟨e,m⟩:=(hm i).1 hi;obtain ⟨x,x1,x2⟩:=(sP (w.ok.s.aan e) hs).1 m;have hn:b≠[]:=by rintro rfl;simp [lY] at x2
    have:=hb hn;have:=SL.rQ hs x2;exact ac5 w nr (t:=x) ⟨by omega,by omega⟩ e x1
  have aa:∀ l:List Sp,SL (-1099511627776) 1099511627776 l→∀ s∈l,-1099511627776≤s.f0∧s.f0≤s.f1∧s.f1≤1099511627776:=fun l h s hm=>SL.ticks h hm;have ab:∀ a:List Sp,SL (-1099511627776) 1099511627776 a→a.length≤60→∃ r,Ev (fun k=>iy.f k 2 a b) r∧((r.length:Int)>0↔uw a b=true):=fun a ha la=>by
    obtain ⟨r,r1,r2,r3⟩:=abb 2 (-1099511627776) 1099511627776 (by omega) (by omega) a b (aa a ha) (aa b hs) (by omega);refine ⟨r,r1,?_⟩;rw [sP ha hs];have r4:∀ x,lY r x=(lY a x&&lY b x):=fun x=>by rw [r3 x];simp [kindOf]
    constructor
    · intro hp
      cases r with
      | nil=>simp at hp
      | cons s q =>
        have ts:=SL.ticks r2 (s:=s) (by simp);have e:=r4 s.f0;have:lY (s :: q) s.f0=true:=by rw [kP];simp;omega
        rw [this] at e;have:=Bool.and_eq_true_iff.1 e.symm;exact ⟨s.f0,this.1,this.2⟩
    · rintro ⟨x,h1,h2⟩
      have e:=r4 x;rw [h1,h2] at e;cases r with
      | nil=>simp [lY] at e
      | cons s q=>simp only [List.length_cons];omega
  have key:∀ (d:Nat) (i:Int),(6001 - i).toNat=d → -6000≤i→i≤6001→Ev (fun k=>jJ.l0 k b 6000 (z.filter (fun j=>decide (j<i))) i p c core odd) z:=by
    intro d;induction d with
    | zero =>
      intro i hd h1 h2;have e:z.filter (fun j=>decide (j<i))=z:=List.filter_eq_self.2 (fun j hj=>by have:=hw j hj;exact decide_eq_true (by omega));rw [e];exact Ev.step (f:=fun _=>some z) (fun k=>by rw [jJ.l0,if_neg (by omega)]) (Ev.now _)
    | succ d ih =>
      intro i hd h1 h2;have g:=qK w nr (i:=i) ⟨h1,by omega⟩;have nxt:=ih (i+1) (by omega) (by omega) (by omega);rw [ze hz i] at nxt;have skip:i ∉ z→Ev (fun k=>jJ.l0 k b 6000 (z.filter (fun j=>decide (j<i))) (wrap64 (i+1)) p c core odd) z:=fun hi=>by
        rw [if_neg hi] at nxt;rw [(abI i ⟨h1,by omega⟩).1];exact nxt
      refine Ev.step (fun k=>by rw [jJ.l0,if_pos (by omega)]) ?_;refine Ev.bind g ?_;rcases sQ w i (by unfold inR;omega) with ⟨e,hv⟩ | ⟨e,hv⟩
      · rw [hv]
        have la:(gT p c core odd i).length≤60:=by unfold gT;rw [List.length_map];exact w.fs i
        obtain ⟨r,r1,r2⟩:=ab (gT p c core odd i) (w.ok.s.aan e) la;refine Ev.yes rfl (Ev.bind r1 ?_);by_cases hx:uw (gT p c core odd i) b=true
        · have hi:=(hm i).2 ⟨e,hx⟩
          rw [if_pos hi] at nxt;refine Ev.yes (r2.2 hx) (Ev.yes ?_ ?_)
          · have:=List.length_filter_le (fun j=>decide (j<i)) z
            omega
          · rw [(abI i ⟨h1,by omega⟩).1];exact nxt
        · exact Ev.no (fun q=>hx (r2.1 q)) (skip fun hi=>hx ((hm i).1 hi).2)
      · have hne:i ∉ z:=fun q=>e ((hm i).1 q).1
        by_cases h0:(mZ p c core odd i).2=0
        · refine Ev.yes h0 ?_
          rw [hv];obtain ⟨r,r1,r2⟩:=ab [] trivial (by simp);refine Ev.bind r1 (Ev.no (fun q => ?_) (skip hne));have:=(sP (a:=[]) trivial hs).1 (r2.1 q);obtain ⟨x,x1,_⟩:=this;simp [lY] at x1
        · exact Ev.no h0 (skip hne)
  have k0:=key _ (-6000) rfl (by omega) (by omega);have e:z.filter (fun j=>decide (j < -6000))=[]:=List.filter_eq_nil_iff.2 (fun j hj=>by have:=hw j hj;simp;omega);rw [e] at k0;unfold jJ.f;exact k0
end Go.Proofs.YtmbmalkpmanaaaaGreat.P
namespace Go.Proofs.YtmbmalkpmanaaaaGreat.Pure
set_option linter.unusedVariables false
set_option linter.unusedSimpArgs false
open Go.Proofs.YtmbmalkpmanaaaaGreat.P Go.RowKit Go.Proofs.YtmbmalkpmanaaaaGreatW.iD Go.Proofs.YtmbmalkpmanaaaaGreatW.jw
section
variable {p c:Int} {core:List (List Sp)} {odd:List Gn}
theorem abJ (l:List Int) (hl:l.length≤1000000):Ev (fun k=>iU.f k l l) true:=by
  have key:∀ (d n:Nat),l.length - n=d→n≤l.length→Ev (fun k=>iU.l0 k l l (l.length:Int) (n:Int)) true:=by
    intro d;induction d with
    | zero =>
      intro n hd hn;exact Ev.step (f:=fun _=>some true) (fun k=>by rw [iU.l0,if_neg (by omega)]) (Ev.now _)
    | succ d ih =>
      intro n hd hn;exact Ev.step (fun k=>by rw [iU.l0,if_pos (by omega),if_pos (by omega),if_pos (by omega),if_pos (by omega),if_pos rfl,wX n l.length hn hl]) (ih (n+1) (by omega) (by omega))
  unfold iU.f;exact Ev.yes rfl (key _ 0 rfl (by omega))
theorem zf (S:List Sp):Ev (fun k=>iq.j1 k (-6000) 6000 S true p c core odd p c core odd) true:=by
  refine Ev.step (fun k=>by rw [iq.j1,if_pos rfl]) ?_;exact Ev.bind vw (Ev.now _)
theorem zK (w:Few p c core odd) (nr:yZ p core odd) {S:List Sp} (hs:SL (-1099511627776) 1099511627776 S) (hl:S.length≤8) (hb:S≠[] → -300≤oq S∧oh S≤300) :
    Ev (fun k=>iq.j1 k (-6000) 6000 S false p c core odd p c core odd) true:=by
  obtain ⟨z,z1,z2,z3,z4⟩:=abG w.ok w.fs hs (by omega) (fun q=>by have:=hb q;omega);refine Ev.step (fun k=>by rw [iq.j1,if_neg (by simp)]) ?_;exact Ev.bind z1 (Ev.yes rfl (Ev.bind (aav w nr hs (by omega) hb z2 z4 z3) (Ev.bind (abJ z (by omega)) (Ev.yes rfl (Ev.bind (wY w) (Ev.yes rfl (Ev.bind vw (Ev.now _))))))))
theorem abK (a:Int) (l:List Sp):Ev (fun k=>iq.j0 k a l true p c core odd) true:=by
  refine Ev.step (fun k=>by rw [iq.j0,if_pos rfl]) ?_;exact Ev.bind vw (Ev.now _)
end
theorem FindTells (p c:Int) (core:List (List Sp)) (odd:List Gn) (ff:acs p c core odd) (a1:Int) (w1:(Lit.int .i16 a1).wf=true) (l2:List Sp) (_:∀ s∈l2,qX s) (m2:l2.length≤9223372036854775807):∃ k,iq.f k p c core odd a1 l2=some true:=by
  refine Ev.rounds ?_;have ba:=bounds_i16 w1;have e1:wrap64 a1=a1:=jl (by omega) (by omega);have ht : -200≤Int.tmod a1 200∧Int.tmod a1 200≤200:=by
    have h1:=Int.lt_tmod_of_pos a1 (show (0:Int)<200 by omega);have h2:=Int.tmod_lt_of_pos a1 (show (0:Int)<200 by omega);omega
  unfold iq.f;obtain ⟨b,b1,b2⟩:=aar (p:=p) (c:=c) ff.mf;refine Ev.bind b1 ?_;cases b with
  | false=>exact Ev.no (by simp) (abK _ _)
  | true =>
    have w:=b2 rfl;obtain ⟨n,n1,n2⟩:=adR w;refine Ev.yes rfl (Ev.bind n1 ?_);cases n with
    | false=>exact abK _ _
    | true =>
      have nr:=n2 rfl;obtain ⟨ra,aa,ab⟩:=afb w.ok (Int.tmod a1 200);obtain ⟨rf,ac,ae⟩:=yT w.ok (Int.tmod a1 200);obtain ⟨rt,af,ag⟩:=adH w.ok (Int.tmod a1 200);have t1:(l2.take ((mn (l2.length:Int) 8):Int).toNat).length≤8:=by rw [abo,List.length_take];omega
      show Ev (fun k=>iq.j0 k a1 l2 false p c core odd) true;refine Ev.step (fun k=>by rw [iq.j0,if_neg (by simp),e1]) ?_;refine Ev.bind (yY w) ?_;dsimp only;refine Ev.bind aa (Ev.bind (acz w nr ht ab) (Ev.yes rfl (Ev.no (by simp) ?_)));refine Ev.bind ac (Ev.bind (aat w nr ht ae) (Ev.yes rfl (Ev.no (by simp) ?_)));refine Ev.bind af (Ev.bind (aau w nr ht ag) (Ev.yes rfl (Ev.no (by simp) ?_)));refine Ev.yes (by rw [abo];omega) (Ev.yes (by rw [abo];omega) ?_);generalize l2.take ((mn (l2.length:Int) 8):Int).toNat=L at t1 ⊢;refine Ev.bind (adA L (by omega)) ?_;have s1:=(aaj L).1;have n3:=abh L;obtain ⟨A,eA⟩:∃ A,(qY L).1=A:=⟨_,rfl⟩;rw [eA] at s1 n3 ⊢;refine Ev.bind (Ev.val (oQ A (by omega))) ?_;by_cases g1:(qY L).2=0
      · refine Ev.yes g1 ?_
        rw [mQ];by_cases hk:A=[]
        · rw [if_pos hk]
          exact Ev.no (by simp) (zK w nr s1 (by omega) (fun q=>absurd hk q))
        · rw [if_neg hk]
          refine Ev.yes rfl ?_;by_cases e2:oq A < -300
          · exact Ev.yes e2 (zf _)
          · refine Ev.no e2 ?_
            by_cases e3:oh A>300
            · show Ev (fun k=>iq.j1 k (-6000) 6000 A (decide (oh A>300)) p c core odd p c core odd) true
              rw [decide_eq_true e3];exact zf _
            · show Ev (fun k=>iq.j1 k (-6000) 6000 A (decide (oh A>300)) p c core odd p c core odd) true
              rw [decide_eq_false e3];exact zK w nr s1 (by omega) (fun _=>⟨by omega,by omega⟩)
      · exact Ev.no g1 (zf _)
end Go.Proofs.YtmbmalkpmanaaaaGreat.Pure
namespace Go.Proofs.YtmbmalkpmanaaaaGreat.findTells
open Go.ChangeShapes Go.WideShapes Go.ChangeAt Go.RowKit
open Go.ChangeMaps (open_string shut_string)
set_option linter.unusedVariables false
theorem own:ownKnob Tryz.prog.godebug=none:=by kernel_rfl
theorem laidOut:laidOutB Tryz.prog=true:=by kernel_rfl
set_option maxRecDepth 100000 in
theorem lifted (os:Os) (started:os.Started) (H:Type) (enc:TypeId × Value→H) :
    ReturnsInHanded {} Tryz.checked os 3 .any (Rows.findTellsSpec.pre6 enc Tryz.prog Tryz.f3 Rows.findTellsRow.domain false) (Rows.findTellsSpec.post enc Tryz.prog Tryz.f3 false true false false):=by
  refine returnsInHanded_of_change_sized (C:=Tryz.checked) own started (by kernel_rfl) Tryz.func3
    (ChangeSpec.witness6 (enc:=enc) (C:=Tryz.checked) false ⟨#[],#[.agg #[.int .i64 0,.int .i64 0,.slice none 0 0,.slice none 0 0],.int .i16 0,.slice none 0 0],[]⟩ 8 (by kernel_rfl) (by kernel_rfl) (by kernel_rfl) (by kernel_rfl)) ?_
  intro W base args ds gs before hval0 hW hcnd hsz0 _;have hval:∀ (j:Nat) t v,Tryz.f3.params[j]? = some t→args[j]? = some v→Value.okWide Tryz.prog W .any base t v:=hval0;have hW':=hW;obtain ⟨p,q,ab,hV,rfl,hfz,hnd⟩:=hW;have hA:DataW.TrodAll enc Tryz.prog W 0 (fun _=>true) true Tryz.f3.params.toList args.toList ds p:=ab;rw [Tryz.params3] at hA hval;obtain ⟨v0,au,d0,ds0,p0,q0,hargs,rfl,rfl,h0,r0⟩:=trodAll_cons hA;obtain ⟨v1,vs1,d1,ds1,p1,q1,rfl,rfl,rfl,h1,r1⟩:=trodAll_cons r0;obtain ⟨v2,vs2,d2,av,p2,q2,rfl,rfl,rfl,h2,r2⟩:=trodAll_cons r1;obtain ⟨rfl,rfl,rfl⟩:=trodAll_nil r2;obtain rfl:args=#[v0,v1,v2]:=by cases args;simp_all
  obtain ⟨rfl,rfl⟩:=trodVars_none hV;have k0:=h0;have ai:∀ x∈p0,x.block<W.heap.size:=by obtain ⟨m,hm⟩:=k0;exact DataW.trod_lt m _ _ _ hm
  obtain ⟨ac,ae,aw,ax,af,ay,az,ag,rfl,aj,ak,al,ao,ap⟩:=P.abD (hval 0 25 v0 rfl rfl) h0;obtain ⟨a1,rfl,rfl,rfl,w1⟩:=open_int Tryz.underlying26 (hval 1 26 v1 rfl rfl) h1;obtain ⟨a2,len2,cap2,rfl⟩:=okWide_slice Tryz.underlying27 (hval 2 27 v2 rfl rfl);have k2:=h2;have aq:∀ x∈p2,x.block<W.heap.size:=by obtain ⟨m,hm⟩:=k2;exact DataW.trod_lt m _ _ _ hm
  obtain ⟨z2,rfl,w2,y2,x2,m2⟩:=P.aah h2;clear ab hval0 hsz0;obtain ⟨kk,hP⟩:=Pure.FindTells ac ae af ag ap a1 w1 z2 x2 m2;refine (P.iq.calls kk ac ae _ _ af _ _ ag a1 _ _ z2 true W aj ak al ao y2 w2 hP).mono fun e W' ⟨he,ah⟩ => ?_;have aa:=ah;subst he;exact ⟨_,rfl,_,_,_,[],_,[],hW',trodAll_mk1 (shut_bool Tryz.underlying4 _),(trodAll_cons_mk (Below.trod laidOut (by kernel_rfl) (of_decide_eq_true (by kernel_rfl)) k0 aa ai) (trodAll_cons_mk (shut_int Tryz.underlying26 w1) (trodAll_cons_mk (Below.trod laidOut (by kernel_rfl) (of_decide_eq_true (by kernel_rfl)) k2 aa aq) trodAll_mk0))),rfl,aa.frame _,fun h=>by cases h⟩
theorem over:Rows.findTellsRow.holds Tryz.pinned (OpenSpec.ofChange Rows.findTellsSpec) :=
  OpenClaim.holds_of_wide 3 Tryz.f3 rfl rfl rfl rfl rfl rfl rfl ⟨rfl,rfl,rfl,rfl,rfl⟩ rfl rfl rfl rfl rfl (by kernel_rfl) Tryz.func3 (by kernel_rfl)
    (of_decide_eq_true (by kernel_rfl)) (by unfold Func.isWrapper;first | (rw [if_pos (by decide +kernel)];kernel_rfl) | (rw [if_neg (by decide +kernel)];exact ⟨rfl,rfl⟩))
    (fun os started H enc _=>lifted os started H enc)
theorem proved:Rows.FindTellsSaid:=over
#print axioms proved
end Go.Proofs.YtmbmalkpmanaaaaGreat.findTells
namespace Go.Proofs.YtmbmalkpmanaaaaGreat
theorem findTells_holds:Rows.FindTellsSaid:=findTells.proved
end Go.Proofs.YtmbmalkpmanaaaaGreat

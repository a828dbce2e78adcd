/- The law ConvFar: it holds at every input that its row reads. No condition of its own. -/
import Derived.Test.YtongeknogcboiaaGreatYM19
import Derived.Test.YtongeknogcboiaaGreatYM21
import Derived.Test.YtongeknogcboiaaGreatYM22
import Derived.Test.YtongeknogcboiaaGreatYM23
import Derived.Test.YtongeknogcboiaaGreatYM24
import Derived.Test.YtongeknogcboiaaGreatYM25
import Derived.Test.YtongeknogcboiaaGreatRows
import Derived.Test.YtongeknogcboiaaGreatYM16
import Derived.WalkKit
import Derived.ProofKit
import Derived.OpenShut
import Derived.ShutString
import Derived.ChangeOld
import Derived.Below
import Derived.SizedLaws
namespace Go.Proofs.YtongeknogcboiaaGreat.U
set_option linter.unusedVariables false
set_option linter.unusedSimpArgs false
open Go.RowKit Go.Proofs.YtongeknogcboiaaGreatW.fK Go.Proofs.YtongeknogcboiaaGreatW.iC M R P Q
theorem afu {k:Nat} {n:Int} (h:chk k n=true):@fu.f wtT k 1 1 [[⟨0,0⟩]] [] n=some (⟨n,1,[[⟨0,n - 1⟩]],[]⟩,0):=by
  unfold chk at h;split at h;next heq =>
    simp only [Bool.and_eq_true,decide_eq_true_eq] at h;obtain ⟨rfl,rfl,rfl,rfl,rfl⟩:=h;exact heq
  next=>cases h
theorem lq {p:Nat→Bool} (h:(List.range 10).all p=true) {r:Nat} (hr:r<10):p r=true:=List.all_eq_true.1 h r (List.mem_range.2 hr)
theorem adO (k n:Nat) (h1:1≤n) (h2:n≤250):chk (k+300) (n:Int)=true:=by
  have e:n=5*((n - 1) / 5 % 10)+(50*((n - 1) / 50)+(n - 1) % 5+1):=by omega
  have hr:(n - 1) / 5 % 10<10:=Nat.mod_lt _ (by decide);have hf:(n - 1) % 5<5:=Nat.mod_lt _ (by decide);have hj:(n - 1) / 50<5:=by omega
  revert e hr hf hj
  generalize (n - 1) / 5 % 10=r;generalize (n - 1) / 50=j;generalize (n - 1) % 5=f;intro e hr hf hj;rw [e];clear e h1 h2;obtain rfl | rfl | rfl | rfl | rfl:f=0∨f=1∨f=2∨f=3∨f=4:=by omega
  · obtain rfl | rfl | rfl | rfl | rfl:j=0∨j=1∨j=2∨j=3∨j=4:=by omega
    · exact lq (ae5 k) hr
    · exact lq (ae6 k) hr
    · exact lq (ae7 k) hr
    · exact lq (ae8 k) hr
    · exact lq (ae9 k) hr
  · obtain rfl | rfl | rfl | rfl | rfl:j=0∨j=1∨j=2∨j=3∨j=4:=by omega
    · exact lq (afa k) hr
    · exact lq (afb k) hr
    · exact lq (afc k) hr
    · exact lq (afd k) hr
    · exact lq (afe k) hr
  · obtain rfl | rfl | rfl | rfl | rfl:j=0∨j=1∨j=2∨j=3∨j=4:=by omega
    · exact lq (aff k) hr
    · exact lq (afg k) hr
    · exact lq (afh k) hr
    · exact lq (afi k) hr
    · exact lq (afj k) hr
  · obtain rfl | rfl | rfl | rfl | rfl:j=0∨j=1∨j=2∨j=3∨j=4:=by omega
    · exact lq (afk k) hr
    · exact lq (afl k) hr
    · exact lq (afm k) hr
    · exact lq (afn k) hr
    · exact lq (afo k) hr
  · obtain rfl | rfl | rfl | rfl | rfl:j=0∨j=1∨j=2∨j=3∨j=4:=by omega
    · exact lq (afp k) hr
    · exact lq (afq k) hr
    · exact lq (afr k) hr
    · exact lq (afs k) hr
    · exact lq (aft k) hr
section
variable {n:Int}
theorem ab5 (p e i:Int):fs 1 [[(⟨0,e⟩:Sp)]] [] i=[⟨0,e⟩]:=by simp [fs,jm,iG]
theorem adP (p i:Int):fb p 1 [] i=i*p:=by simp [fb,jm]
theorem adQ (p e i:Int):gT p 1 [[(⟨0,e⟩:Sp)]] [] i=[⟨i*p,e+i*p⟩]:=by simp [gT,ab5 p,adP,kZ]
theorem adR (p e i:Int):gLo p 1 [[(⟨0,e⟩:Sp)]] [] i=i*p:=by simp [gLo,ab5 p,adP,lD]
theorem adS (p e i:Int):gHi p 1 [[(⟨0,e⟩:Sp)]] [] i=e+i*p:=by simp [gHi,ab5 p,adP,lT]
theorem vI (h1:1≤n) (h2:n≤250):FOK n 1 [[(⟨0,n - 1⟩:Sp)]] []:=by
  refine FOK.of ⟨rfl,by omega,by omega,by omega,?_,by simp,by simp,List.Pairwise.nil,by simp,by simp⟩ ⟨by simp,?_⟩ ⟨by simp,by simp⟩
  · intro l hl
    simp only [List.mem_singleton] at hl;subst hl;simp only [SL,and_true];omega
  · intro a ha b hb _ _
    simp only [List.mem_singleton] at ha hb;subst ha;subst hb;simp only [lT,lD];omega
theorem mH {e p i x:Int}:kI (gT p 1 [[(⟨0,e⟩:Sp)]] [] i) x=true↔i*p≤x∧x≤e+i*p:=by simp [adQ,kI]
end
section
variable {t:Int}
abbrev vB (t:Int):List Gn:=[⟨3,[⟨-t,-t⟩,⟨t,t⟩]⟩]
theorem vJ (h1:1≤t) (h2:t≤1099511627776):SF 0 0 [] (vB t):=by
  refine ⟨rfl,by omega,by omega,by omega,by simp,?_,?_,?_,by simp,by simp [vB]⟩
  · intro g hg
    simp only [vB,List.mem_singleton] at hg;subst hg;simp only [SL,and_true];omega
  · intro g hg
    simp only [vB,List.mem_singleton] at hg;subst hg;show inR 3;unfold inR;omega
  · exact List.pairwise_singleton _ _
theorem qO (h1:1≤t) (h2:t≤1099511627776):thV 0 0 [] (vB t) 3=[⟨-t,-t⟩,⟨t,t⟩]:=by
  have e:Ex 0 0 [] (vB t) 3:=⟨by unfold inR;omega,by simp [fs,jm,vB],by simp [gLo,fs,fb,jm,vB,lD];omega,by simp [gHi,fs,fb,jm,vB,lT];omega⟩;unfold thV;rw [(vJ h1 h2).nV e];simp [gT,fs,fb,jm,vB,kZ]
theorem mG {x:Int}:kI [(⟨-t,-t⟩:Sp),⟨t,t⟩] x=true↔x = -t∨x=t:=by
  simp [kI]
  omega
end
section
variable [Inhabited WT]
theorem ab6 (n:Nat) (h1:1≤n) (h2:n≤250):Ev (fun k=>fu.f k 1 1 [[⟨0,0⟩]] [] (n:Int)) ((⟨(n:Int),1,[[⟨0,(n:Int) - 1⟩]],[]⟩:P.S25),(0:Int)):=⟨300,fun k hk=>by
  obtain ⟨j,rfl⟩:=Nat.exists_eq_add_of_le' hk;rename_i i;rw [ab9 i wtT];exact afu (adO j n h1 h2)⟩
end
theorem adT (k:Nat):iF.f (k+300)=some ⟨1,1,[[⟨0,0⟩]],[]⟩:=by kernel_rfl
theorem aa0:Ev (fun k=>iF.f k) (⟨1,1,[[⟨0,0⟩]],[]⟩:P.S25):=⟨300,fun k hk=>by
  obtain ⟨j,rfl⟩:=Nat.exists_eq_add_of_le' hk;exact adT j⟩
theorem acD {t:Int} (h1:1≤t) (h2:t≤1099511627776):SL (-1099511627776) 1099511627776 [(⟨-t,-t⟩:Sp),⟨t,t⟩]:=by
  have:=vH (vJ h1 h2) 3;rwa [qO h1 h2] at this
theorem adU {n i:Int} (hr:inR i) (h1 : -1099511627776≤i*n) (h2:n - 1+i*n≤1099511627776):Ex n 1 [[(⟨0,n - 1⟩:Sp)]] [] i:=⟨hr,by rw [ab5 n];simp,by rw [adR];exact h1,by rw [adS];exact h2⟩
theorem yw {t:Int} (h1:1≤t) (h2:t≤1099511627776) {so:Int→Bool} (hso:∀ m,Ex 1 1 [[(⟨0,0⟩:Sp)]] [] m→(so m=true↔m = -t∨m=t)) {r:Int × Int × Bool} (h:BoS 1 1 [[⟨0,0⟩]] [] so r):r=(-t,t,true):=by
  have e1:Ex 1 1 [[(⟨0,0⟩:Sp)]] [] (-t):=adU (n:=1) (by unfold inR;omega) (by omega) (by omega);have e2:Ex 1 1 [[(⟨0,0⟩:Sp)]] [] t:=adU (n:=1) (by unfold inR;omega) (by omega) (by omega);have s1:=(hso _ e1).2 (Or.inl rfl);have s2:=(hso _ e2).2 (Or.inr rfl);obtain ⟨a,b,c⟩:=r;cases c with
  | false=>rw [(h.n rfl).2.2 _ e1] at s1;cases s1
  | true =>
    obtain ⟨⟨x1,x2⟩,⟨y1,y2⟩,z⟩:=h.y rfl;simp only at x1 x2 y1 y2 z;have b1:=z _ e1 s1;have b2:=z _ e2 s2;have c1:=(hso _ x1).1 x2;have c2:=(hso _ y1).1 y2;have:a = -t:=by omega
    have:b=t:=by omega
    simp [*]
theorem aa1 {n t i:Int} (hn:1≤n) (hn2:n≤250) (h1:1≤t) (h2:t≤1099511627776) (e:Ex n 1 [[(⟨0,n - 1⟩:Sp)]] [] i):inS (gT n 1 [[⟨0,n - 1⟩]] [] i) [⟨-t,-t⟩,⟨t,t⟩]=true↔n=1∧(i = -t∨i=t):=by
  rw [wQ ((vI hn hn2).s.qH e) (acD h1 h2)];constructor
  · intro h
    have a:=mG.1 (h (i*n) (mH.2 ⟨by omega,by omega⟩));have b:=mG.1 (h (n - 1+i*n) (mH.2 ⟨by omega,by omega⟩));have hn1:n=1:=by
      rcases Int.lt_or_le 1 n with g | g
      · have c:=mG.1 (h (i*n+1) (mH.2 ⟨by omega,by omega⟩))
        omega
      · omega
    subst hn1;exact ⟨rfl,by omega⟩
  · rintro ⟨rfl,h⟩ x hx
    have:=mH.1 hx;exact mG.2 (by omega)
theorem vK {n t i:Int} (hn:1≤n) (hn2:n≤250) (h1:1≤t) (h2:t≤1099511627776) (e:Ex n 1 [[(⟨0,n - 1⟩:Sp)]] [] i):meS (gT n 1 [[⟨0,n - 1⟩]] [] i) [⟨-t,-t⟩,⟨t,t⟩]=true↔kI (gT n 1 [[⟨0,n - 1⟩]] [] i) (-t)=true∨kI (gT n 1 [[⟨0,n - 1⟩]] [] i) t=true:=by
  rw [aaT ((vI hn hn2).s.qH e) (acD h1 h2)];constructor
  · rintro ⟨x,x1,x2⟩
    rcases mG.1 x2 with rfl | rfl
    · exact Or.inl x1
    · exact Or.inr x1
  · rintro (h | h)
    · exact ⟨_,h,mG.2 (Or.inl rfl)⟩
    · exact ⟨_,h,mG.2 (Or.inr rfl)⟩
theorem agr {n t:Int} (hn:1≤n) (hn2:n≤250) (h1:1≤t) (h2:t≤1099511627776) {r:Int × Int × Bool} (h:BoS n 1 [[(⟨0,n - 1⟩:Sp)]] [] (fun m=>meS (gT n 1 [[⟨0,n - 1⟩]] [] m) [⟨-t,-t⟩,⟨t,t⟩]) r) {a:Int × Bool} (ha:AtS n 1 [[⟨0,n - 1⟩]] [] (-t) a) (ok:a.2=true):r.2.2=true∧r.1=a.1:=by
  obtain ⟨e,e1⟩:=ha.y ok;have m1:=(vK hn hn2 h1 h2 e).2 (Or.inl e1);have b:r.2.2=true:=by
    cases q:r.2.2 with
    | true=>rfl
    | false=>have:=(h.n q).2.2 _ e;simp only [m1] at this;cases this
  refine ⟨b,?_⟩;obtain ⟨⟨x1,x2⟩,_,z⟩:=h.y b;have z1:=(z _ e m1).1;rcases (vK hn hn2 h1 h2 x1).1 x2 with g | g
  · exact wS (vI hn hn2) x1 e g e1
  · have p1:=mH.1 g
    have p2:=mH.1 e1;rcases Int.lt_or_eq_of_le z1 with q | q
    · have:=(vI hn hn2).ord _ _ q x1.r e.r x1.n e.n
      rw [adS,adR] at this;omega
    · exact q
theorem ags {n t:Int} (hn:1≤n) (hn2:n≤250) (h1:1≤t) (h2:t≤1099511627776) {r:Int × Int × Bool} (h:BoS n 1 [[(⟨0,n - 1⟩:Sp)]] [] (fun m=>meS (gT n 1 [[⟨0,n - 1⟩]] [] m) [⟨-t,-t⟩,⟨t,t⟩]) r) {a:Int × Bool} (ha:AtS n 1 [[⟨0,n - 1⟩]] [] t a) (ok:a.2=true):r.2.2=true∧r.2.1=a.1:=by
  obtain ⟨e,e1⟩:=ha.y ok;have m1:=(vK hn hn2 h1 h2 e).2 (Or.inr e1);have b:r.2.2=true:=by
    cases q:r.2.2 with
    | true=>rfl
    | false=>have:=(h.n q).2.2 _ e;simp only [m1] at this;cases this
  refine ⟨b,?_⟩;obtain ⟨_,⟨x1,x2⟩,z⟩:=h.y b;have z1:=(z _ e m1).2;rcases (vK hn hn2 h1 h2 x1).1 x2 with g | g
  · have p1:=mH.1 g
    have p2:=mH.1 e1;rcases Int.lt_or_eq_of_le z1 with q | q
    · have:=(vI hn hn2).ord _ _ q e.r x1.r e.n x1.n
      rw [adS,adR] at this;omega
    · exact q.symm
  · exact wS (vI hn hn2) x1 e g e1
theorem ab7 {n t:Int} (hn:1≤n) (hn2:n≤250) (h1:1≤t) (h2:t≤1099511627776) {r:Int × Int × Bool} (h:BoS n 1 [[(⟨0,n - 1⟩:Sp)]] [] (fun m=>inS (gT n 1 [[⟨0,n - 1⟩]] [] m) [⟨-t,-t⟩,⟨t,t⟩]) r):r.2.2=decide (n=1):=by
  by_cases q:n=1
  · subst q
    have e1:Ex 1 1 [[(⟨0,1 - 1⟩:Sp)]] [] (-t):=adU (n:=1) (by unfold inR;omega) (by omega) (by omega);have s:=(aa1 hn hn2 h1 h2 e1).2 ⟨rfl,Or.inl rfl⟩;cases g:r.2.2 with
    | true=>rfl
    | false=>have:=(h.n g).2.2 _ e1;simp only [s] at this;cases this
  · cases g:r.2.2 with
    | false=>simp [q]
    | true =>
      obtain ⟨⟨x1,x2⟩,_,_⟩:=h.y g;exact absurd ((aa1 hn hn2 h1 h2 x1).1 x2).1 q
theorem adV [Inhabited WT] (a:Int) (ha:(Lit.int .u64 a).wf=true) (b:Int) (hb:(Lit.int .u8 b).wf=true):∃ k,fI.f k a b=some true:=by
  refine Ev.rounds ?_;have ha:0≤a∧a≤18446744073709551615:=by simpa [Lit.wf,IntKind.min,IntKind.max,IntKind.bits,IntKind.signed] using ha
  have hb:0≤b∧b≤255:=by simpa [Lit.wf,IntKind.min,IntKind.max,IntKind.bits,IntKind.signed] using hb
  obtain ⟨t,ht,t1,t2⟩:∃ t,wq (1+(wq (Int.tmod a 1099511627776)))=t∧1≤t∧t≤1099511627776:=by
    rw [Int.tmod_eq_emod_of_nonneg ha.1,jo (n:=a % 1099511627776) (by omega) (by omega),jo (by omega) (by omega)];exact ⟨_,rfl,by omega,by omega⟩
  obtain ⟨n,hn,n1,n2⟩:∃ n:Nat,wq (1+(wq (Int.tmod b 250)))=(n:Int)∧1≤n∧n≤250:=by
    rw [Int.tmod_eq_emod_of_nonneg hb.1,jo (n:=b % 250) (by omega) (by omega),jo (by omega) (by omega)];exact ⟨(1+b % 250).toNat,by omega,by omega,by omega⟩
  have hneg:wq (0 - t) = -t:=by rw [jo (by omega) (by omega)];omega
  have d:=vI (n:=1) (by omega) (by omega);have d':FOK 1 1 [[(⟨0,0⟩:Sp)]] []:=d;have gd:∀ m,(gT 1 1 [[(⟨0,0⟩:Sp)]] [] m).length≤100000:=fun m=>by rw [adQ];simp
  have fl:(thV 0 0 [] (vB t) 3).length≤100000:=by rw [qO t1 t2];simp
  unfold fI.f;simp only [ht,hn,hneg,decide_eq_true_eq];refine Ev.bind aa0 ?_;obtain ⟨w,w1,w2⟩:=rV (vJ t1 t2) d' 3 fl gd;rw [qO t1 t2] at w2;have w3:w=(-t,t,true):=yw t1 t2 (fun m hm=>(aa1 (n:=1) (by omega) (by omega) t1 t2 hm).trans (by simp)) w2;subst w3;refine Ev.bind w1 (Ev.no (by simp) (Ev.no (by simp) (Ev.no (by simp) ?_)));obtain ⟨v,v1,v2⟩:=yu (vJ t1 t2) d' 3 fl gd;rw [qO t1 t2] at v2;have v3:v=(-t,t,true):=yw t1 t2 (fun m hm=>(vK (n:=1) (by omega) (by omega) t1 t2 hm).trans (by rw [mH (e:=1 - 1),mH (e:=1 - 1)];omega)) v2;subst v3;refine Ev.bind v1 (Ev.yes rfl (Ev.yes rfl (Ev.no (by simp) ?_)));obtain ⟨c,c1,c2⟩:=ab4 (vJ t1 t2) d' 3 fl (fun m=>Int.ofNat_le.1 (by have:=adM d'.s m;simp [aaL] at this;omega));have c3:c=(0,false):=by
    obtain ⟨x,y⟩:=c;cases y with
    | false=>rw [show x=0 from (c2.n rfl).1]
    | true =>
      obtain ⟨e,f,sub⟩:=c2.y rfl;have fv:thV 0 0 [] (vB t) 3=gT 0 0 [] (vB t) 3:=by unfold thV;rw [(vJ t1 t2).nV e]
      rw [← fv,qO t1 t2] at sub;have p:=mH.1 (sub (-t) (mG.2 (Or.inl rfl)));have q:=mH.1 (sub t (mG.2 (Or.inr rfl)));omega
  subst c3;refine Ev.bind c1 (Ev.yes rfl (Ev.no (by simp) ?_));have hn1:1≤(n:Int):=by omega
  have hn2:(n:Int)≤250:=by omega
  have fb:=vI hn1 hn2;have gb:∀ m,(gT (n:Int) 1 [[(⟨0,(n:Int) - 1⟩:Sp)]] [] m).length≤100000:=fun m=>by rw [adQ];simp
  have tail:Ev (fun k=>fI.l1 (fun y114 y115 aa ab ac af ah ai aj ak al am=>(some y114)) (fun ao y104 ap aq au aw ax ay az y112 y113=>(some false)) k (n:Int) (vB t) 1 1 [[⟨0,0⟩]] [] (-t) t (n:Int) 1 [[⟨0,(n:Int) - 1⟩]] []) true:=by
    unfold fI.l1;obtain ⟨u,u1,u2⟩:=rV (vJ t1 t2) fb 3 fl gb;rw [qO t1 t2] at u2;have:=ab7 hn1 hn2 t1 t2 u2;exact Ev.bind u1 (Ev.yes (by simp [this]) (Ev.bind zn (Ev.now _)))
  simp only [fI.l0,hneg,decide_eq_true_eq];refine Ev.bind (ab6 n n1 n2) ?_;obtain ⟨me,e1,e2⟩:=yu (vJ t1 t2) fb 3 fl gb;rw [qO t1 t2] at e2;obtain ⟨x,x1,x2⟩:=adN fb (-t);obtain ⟨y,y1,y2⟩:=adN fb t;refine Ev.bind e1 (Ev.bind x1 (Ev.bind y1 (Ev.no (by simp) ?_)));have two:Ev (fun k=>if y.2=true then (if (!me.2.2)=true then some false else if (!decide (me.2.1=y.1))=true then some false else fI.l1 (fun y114 y115 aa ab ac af ah ai aj ak al am=>(some y114)) (fun ao y104 ap aq au aw ax ay az y112 y113=>(some false)) k (n:Int) (vB t) 1 1 [[⟨0,0⟩]] [] (-t) t (n:Int) 1 [[⟨0,(n:Int) - 1⟩]] []) else fI.l1 (fun y114 y115 aa ab ac af ah ai aj ak al am=>(some y114)) (fun ao y104 ap aq au aw ax ay az y112 y113=>(some false)) k (n:Int) (vB t) 1 1 [[⟨0,0⟩]] [] (-t) t (n:Int) 1 [[⟨0,(n:Int) - 1⟩]] []) true:=by
    by_cases q:y.2=true
    · obtain ⟨r1,r2⟩:=ags hn1 hn2 t1 t2 e2 y2 q
      exact Ev.yes q (Ev.no (by simp [r1]) (Ev.no (by simp [r2]) tail))
    · exact Ev.no q tail
  by_cases q:x.2=true
  · obtain ⟨r1,r2⟩:=agr hn1 hn2 t1 t2 e2 x2 q
    exact Ev.yes q (Ev.no (by simp [r1]) (Ev.no (by simp [r2]) two))
  · exact Ev.no q two
end Go.Proofs.YtongeknogcboiaaGreat.U
namespace Go.Proofs.YtongeknogcboiaaGreat.aa2
open Go.ChangeShapes Go.WideShapes Go.ChangeAt Go.RowKit
open Go.ChangeMaps (open_string shut_string)
set_option linter.unusedVariables false
theorem own:ownKnob Tryz.prog.godebug=none:=by kernel_rfl
set_option maxRecDepth 100000 in
theorem lifted (os:Os) (started:os.Started) (H:Type) (enc:TypeId × Value→H) :
    ReturnsInHanded {} Tryz.checked os 4 .any (Rows.convFarSpec.pre6 enc Tryz.prog Tryz.f4 Rows.convFarRow.domain false) (Rows.convFarSpec.post enc Tryz.prog Tryz.f4 false true false false):=by
  refine returnsInHanded_of_change_sized (C:=Tryz.checked) own started (by kernel_rfl) Tryz.func4
    (ChangeSpec.witness6 (enc:=enc) (C:=Tryz.checked) false ⟨#[],#[.int .u64 0,.int .u8 0],[]⟩ 8 (by kernel_rfl) (by kernel_rfl) (by kernel_rfl) (by kernel_rfl)) ?_
  intro W base args ds gs before hval0 hW hcnd hsz0 _;have hval:∀ (j:Nat) t v,Tryz.f4.params[j]? = some t→args[j]? = some v→Value.okWide Tryz.prog W .any base t v:=hval0;have hW':=hW;obtain ⟨p,q,aa,hV,rfl,hfz,hnd⟩:=hW;have hA:DataW.TrodAll enc Tryz.prog W 0 (fun _=>true) true Tryz.f4.params.toList args.toList ds p:=aa;rw [Tryz.params4] at hA hval;obtain ⟨v0,af,d0,ds0,p0,q0,hargs,rfl,rfl,h0,r0⟩:=trodAll_cons hA;obtain ⟨v1,vs1,d1,ds1,p1,q1,rfl,rfl,rfl,h1,r1⟩:=trodAll_cons r0;obtain ⟨rfl,rfl,rfl⟩:=trodAll_nil r1;obtain rfl:args=#[v0,v1]:=by cases args;simp_all
  obtain ⟨rfl,rfl⟩:=trodVars_none hV;obtain ⟨a0,rfl,rfl,rfl,w0⟩:=open_int Tryz.underlying39 (hval 0 39 v0 rfl rfl) h0;obtain ⟨a1,rfl,rfl,rfl,w1⟩:=open_int Tryz.underlying5 (hval 1 5 v1 rfl rfl) h1;clear aa hval0 hsz0;obtain ⟨kk,hP⟩:=U.adV a0 w0 a1 w1;refine (M.aau (R.fI.ok kk) (W:=W) (a:=(a0,a1,())) (vs:=[.int .u64 a0,.int .u8 a1]) ⟨⟨_,rfl,rfl⟩,⟨⟨_,rfl,rfl⟩,trivial⟩⟩ hP).mono fun e W' ⟨he,ab⟩ => ?_;have ac:=ab;subst he;exact ⟨_,rfl,_,_,_,[],_,[],hW',trodAll_mk1 (shut_bool Tryz.underlying4 _),(trodAll_cons_mk (shut_int Tryz.underlying39 w0) (trodAll_cons_mk (shut_int Tryz.underlying5 w1) trodAll_mk0)),rfl,ac.frame _,fun h=>by cases h⟩
theorem over:Rows.convFarRow.holds Tryz.pinned (OpenSpec.ofChange Rows.convFarSpec) :=
  OpenClaim.holds_of_wide 4 Tryz.f4 rfl rfl rfl rfl rfl rfl rfl ⟨rfl,rfl,rfl,rfl,rfl⟩ rfl rfl rfl rfl rfl (by kernel_rfl) Tryz.func4 (by kernel_rfl)
    (of_decide_eq_true (by kernel_rfl)) (by unfold Func.isWrapper;first | (rw [if_pos (by decide +kernel)];kernel_rfl) | (rw [if_neg (by decide +kernel)];exact ⟨rfl,rfl⟩))
    (fun os started H enc _=>lifted os started H enc)
theorem proved:Rows.ConvFarSaid:=over
#print axioms proved
end Go.Proofs.YtongeknogcboiaaGreat.aa2
namespace Go.Proofs.YtongeknogcboiaaGreat
theorem convFar_holds:Rows.ConvFarSaid:=aa2.proved
end Go.Proofs.YtongeknogcboiaaGreat

/- The law SetsShape: it holds at every input that its row reads. No condition of its own. -/
import Derived.Test.YtcomnjodjijcmaaGreatYB18
import Derived.Test.YtcomnjodjijcmaaGreatRows
import Derived.Test.YtcomnjodjijcmaaGreatYB15
import Derived.WalkKit
import Derived.ProofKit
import Derived.OpenShut
import Derived.ShutString
import Derived.ChangeOld
import Derived.Below
import Derived.SizedLaws
namespace Go.Proofs.YtcomnjodjijcmaaGreat.Q
set_option linter.unusedVariables false
set_option linter.unusedSimpArgs false
open Go.RowKit Go.Proofs.YtcomnjodjijcmaaGreatW.dA Go.Proofs.YtcomnjodjijcmaaGreatW.eD M R P
theorem zB (k:Nat):@eX.f wtT (k+100)=some true:=by kernel_rfl
variable [Inhabited WT]
theorem nV:Ev (fun k=>eX.f k) true:=⟨100,fun k hk=>by
  obtain ⟨j,rfl⟩:=Nat.exists_eq_add_of_le' hk;rename_i i;rw [zV i wtT];exact zB j⟩
end Go.Proofs.YtcomnjodjijcmaaGreat.Q
namespace Go.Proofs.YtcomnjodjijcmaaGreat.U
set_option linter.unusedVariables false
set_option linter.unusedSimpArgs false
open Go.RowKit Go.Proofs.YtcomnjodjijcmaaGreatW.dA Go.Proofs.YtcomnjodjijcmaaGreatW.eD M R P Q
section
end
variable [Inhabited WT]
theorem alf {x:Fm} (h:sfF x):Ev (fun k=>cZ.f k x.f0 x.f1 x.f2 x.f3 x.f0 x.f1 x.f2 x.f3) true:=sN h
end Go.Proofs.YtcomnjodjijcmaaGreat.U
namespace Go.Proofs.YtcomnjodjijcmaaGreat.Q
set_option linter.unusedVariables false
set_option linter.unusedSimpArgs false
open Go.RowKit Go.Proofs.YtcomnjodjijcmaaGreatW.dA Go.Proofs.YtcomnjodjijcmaaGreatW.eD M R P
theorem acQ (k:Nat):@dD.f wtT (k+100) 0 0 [] [⟨1,[⟨5,5⟩]⟩] 0 0 [] [⟨2,[⟨3,3⟩]⟩]=some (⟨0,0,[],[]⟩,51):=by kernel_rfl
theorem aei (k:Nat):@dJ.f wtT (k+100) 0 0 [] [⟨1,[⟨5,5⟩]⟩] 0 0 [] [⟨2,[⟨3,3⟩]⟩]=some (⟨0,0,[],[⟨1,[⟨5,5⟩]⟩]⟩,0):=by kernel_rfl
variable [Inhabited WT]
theorem acR:Ev (fun k=>dD.f k 0 0 [] [⟨1,[⟨5,5⟩]⟩] 0 0 [] [⟨2,[⟨3,3⟩]⟩]) (⟨0,0,[],[]⟩,51):=⟨100,fun k hk=>by
  obtain ⟨j,rfl⟩:=Nat.exists_eq_add_of_le' hk;rename_i i;rw [zV i wtT];exact acQ j⟩
theorem aej:Ev (fun k=>dJ.f k 0 0 [] [⟨1,[⟨5,5⟩]⟩] 0 0 [] [⟨2,[⟨3,3⟩]⟩]) (⟨0,0,[],[⟨1,[⟨5,5⟩]⟩]⟩,0):=⟨100,fun k hk=>by
  obtain ⟨j,rfl⟩:=Nat.exists_eq_add_of_le' hk;rename_i i;rw [zV i wtT];exact aei j⟩
end Go.Proofs.YtcomnjodjijcmaaGreat.Q
namespace Go.Proofs.YtcomnjodjijcmaaGreat.Q
set_option linter.unusedVariables false
set_option linter.unusedSimpArgs false
open Go.RowKit Go.Proofs.YtcomnjodjijcmaaGreatW.dA Go.Proofs.YtcomnjodjijcmaaGreatW.eD M R P
section
theorem aft {A B:Fm} (a:NF A) (b:NF B) (h:oD A B) (i:Int):al (gF A i) (gF B i):=by
  by_cases hi:i∈jB A B
  · have:=yt a b i hi
    have q:=h.2.2 i hi;rw [a.v (by omega) (by omega),b.v (by omega) (by omega)] at q;exact q
  · rw [abq (fun g hg e=>hi (wF.2 (.inl ⟨g,hg,e⟩))),abq (fun g hg e=>hi (wF.2 (.inr ⟨g,hg,e⟩)))]
    by_cases hn:nF A B=0
    · intro h1
      exact absurd (abr (List.length_eq_zero_iff.1 (aeh hn).1) i) h1
    · obtain ⟨s1,s2⟩:=acN a.cn.s b.cn.s h.1
      have q1:=Int.emod_nonneg i (show (nF A B:Int)≠0 by omega);have q2:=Int.emod_lt_of_pos i (show (0:Int)<(nF A B:Int) by omega);have q3:i % (nF A B:Int)+i / (nF A B:Int)*(nF A B:Int)=i:=by
        have:=Int.emod_add_mul_ediv i (nF A B:Int);rw [Int.mul_comm] at this;exact this
      have e1:=abl s1 (i % (nF A B:Int)) (i / (nF A B:Int));have e2:=abl s2 (i % (nF A B:Int)) (i / (nF A B:Int));rw [q3] at e1 e2;have q:=h.2.1 (i % (nF A B:Int)).toNat (by omega);rw [show (((i % (nF A B:Int)).toNat:Nat):Int)=i % (nF A B:Int) by omega] at q;rw [e1,e2];intro h1 h2;rw [q (fun e=>h1 (by rw [e];rfl)) (fun e=>h2 (by rw [e];rfl))]
end
variable [Inhabited WT]
theorem acS {p c p' c':Int} {core gQ:List (List Sp)} {odd mE:List Gn} {A B:Fm} (ca:Ev (fun k=>dN.f k p c core odd) A) (cb:Ev (fun k=>dN.f k p' c' gQ mE) B) (H:OfH A B) :
    ∃ r,Ev (fun k=>iJ.f k p c core odd p' c' gQ mE) r∧(r.1=true↔oD A B)∧(r.2=0∨r.2=51)∧(r.2=51↔¬ uW A B):=by
  obtain ⟨r1,c1,c2,c3⟩:=sO H;have hn:=H.n;have ho:=H.o;have hil:=qm A B;unfold iJ.f;by_cases hf:uW A B
  case neg =>
    have:=c3 hf;subst this;exact ⟨(false,51),Ev.bind ca (Ev.bind cb (Ev.bind c1 (Ev.yes (by simp) (Ev.now _)))),⟨fun e=>(by cases e),fun h=>absurd h.1 hf⟩,.inr rfl,fun _=>hf,fun _=>rfl⟩
  have:=c2 hf;subst this;obtain ⟨b1,d1,d2⟩:=l5 ((List.range (nF A B)).map (fun (i:Nat)=>(⟨bF A (i:Int),bF B (i:Int)⟩:P2))) (by simp;omega) (fun q hq=>by
    obtain ⟨i,_,rfl⟩:=List.mem_map.1 hq;exact qo H.sa _)
  obtain ⟨b2,e1,e2⟩:=l5 ((jB A B).map fun i=>(⟨(vF A i).1,(vF B i).1⟩:P2)) (by simp;omega) (fun q hq=>by
    obtain ⟨i,_,rfl⟩:=List.mem_map.1 hq;exact kg H.sa _)
  have od:=wD H;cases b1 with
  | false =>
    refine ⟨(false,0),Ev.bind ca (Ev.bind cb (Ev.bind c1 (Ev.no (by simp) (Ev.bind od (Ev.bind d1 (Ev.no (by simp) (Ev.now _))))))),⟨fun e=>(by cases e),fun h => ?_⟩,.inl rfl,fun e=>(by cases e),fun e=>absurd hf e⟩;exact absurd (d2.2 fun q hq=>by
      obtain ⟨i,hi,rfl⟩:=List.mem_map.1 hq;exact h.2.1 i (List.mem_range.1 hi)) (by simp)
  | true =>
    refine ⟨(b2,0),Ev.bind ca (Ev.bind cb (Ev.bind c1 (Ev.no (by simp) (Ev.bind od (Ev.bind d1 (Ev.yes rfl (Ev.bind e1 (Ev.now _)))))))),⟨fun e=>⟨hf,fun i hi=>d2.1 rfl _ (List.mem_map.2 ⟨i,List.mem_range.2 hi,rfl⟩),fun i hi=>e2.1 e _ (List.mem_map.2 ⟨i,hi,rfl⟩)⟩,fun h=>e2.2 fun q hq=>by
      obtain ⟨i,hi,rfl⟩:=List.mem_map.1 hq;exact h.2.2 i hi⟩,.inl rfl,fun e=>(by cases e),fun e=>absurd hf e⟩
end Go.Proofs.YtcomnjodjijcmaaGreat.Q
namespace Go.Proofs.YtcomnjodjijcmaaGreat.U
set_option linter.unusedVariables false
set_option linter.unusedSimpArgs false
open Go.RowKit Go.Proofs.YtcomnjodjijcmaaGreatW.dA Go.Proofs.YtcomnjodjijcmaaGreatW.eD M R P Q
theorem afu:sfF ⟨0,0,[],[⟨1,[⟨5,5⟩]⟩]⟩:=⟨rfl,Int.le_refl _,by decide,by simp,by simp,by simp [SL],by simp [inR],by simp,by simp,by simp⟩
variable [Inhabited WT]
theorem adf (v1 v2:Int) (v3:List (List Sp)) (v4:List Gn) (v5 v6:Int) (v7:List (List Sp)) (v8:List Gn) (v9 v10:Int) (v11:List (List Sp)) (v12:List Gn) (v13 v14:Int) (v15:List (List Sp)) (v16:List Gn):Ev (fun k=>dw.l2 (fun y _ _ _ _ _ _ _ _ _ _ _ _ _ _ _ _ _ _ _ _ _ _ _ _ _ _=>some y) (fun _ _ _ _ _ _ _ _ _ _ _ _ _ _ _ _ _ _ _ _ _ _ _ _ _ _=>some false) k v1 v2 v3 v4 v5 v6 v7 v8 v9 v10 v11 v12 v13 v14 v15 v16) true:=by
  unfold dw.l2;exact Ev.bind acR (Ev.bind aej (Ev.yes (by simp) (Ev.yes (by simp) (Ev.bind (alf afu) (Ev.yes rfl (Ev.bind nV (Ev.now _)))))))
theorem SetsShape (p c:Int) (core:List (List Sp)) (odd:List Gn) (ff:aaW p c core odd) (p' c':Int) (gQ:List (List Sp)) (mE:List Gn) (af:aaW p' c' gQ mE) (i:Int) (hi:(Lit.int .i16 i).wf=true):∃ k,dw.f k p c core odd p' c' gQ mE i=some true:=by
  refine Ev.rounds ?_;unfold dw.f;obtain ⟨na,aa,ah⟩:=abm (p:=p) (c:=c) ff.mf;obtain ⟨nb,ac,ai⟩:=abm (p:=p') (c:=c') af.mf;cases na with
  | false=>exact Ev.bind aa (Ev.yes rfl (Ev.bind nV (Ev.now _)))
  | true =>
  cases nb with
  | false=>exact Ev.bind aa (Ev.no (by simp) (Ev.bind ac (Ev.yes rfl (Ev.bind nV (Ev.now _)))))
  | true =>
  have wa:=ah rfl;have wb:=ai rfl;obtain ⟨A,cA,sA⟩:=lY wa.ok.s;obtain ⟨B,cB,sB⟩:=lY wb.ok.s;have a:Sml A:=yx (O:=⟨p,c,core,odd⟩) wa sA;have b:Sml B:=yx (O:=⟨p',c',gQ,mE⟩) wb sB;have ab:=agJ a b;have H:=a.nf.of b.nf ab;obtain ⟨is,f1,f2,f3,_⟩:=acS cA cB H;obtain ⟨x,e4,s4⟩:=acM cA cB H (yu agE a.nf b.nf ab);obtain ⟨z,e6,s6⟩:=afl cA cB H (yu agF a.nf b.nf ab);have l1:Ev (fun k=>dw.l1 (fun _ _ _ _ _ _ _ _ _ _ _ _ _ _ _ _=>some false) (fun y _ _ _ _ _ _ _ _ _ _ _ _ _ _ _ _ _ _ _ _ _ _ _ _ _ _=>some y) (fun _ _ _ _ _ _ _ _ _ _ _ _ _ _ _ _ _ _ _ _ _ _ _ _ _ _=>some false) k is.1 p c core odd p' c' gQ mE) true:=by
    unfold dw.l1;refine Ev.bind e4 (Ev.bind e6 ?_);cases he:is.1 with
    | true=>exact Ev.no (by simp) (adf _ _ _ _ _ _ _ _ _ _ _ _ _ _ _ _)
    | false =>
      have hal:¬ oD A B:=fun h=>by rw [f2.2 h] at he;cases he
      obtain rfl:=s4.1 hal;obtain rfl:=s6.1 hal;exact Ev.yes rfl (Ev.no (by simp) (Ev.no (by simp) (Ev.bind (alf aeg.s) (Ev.no (by simp) (adf _ _ _ _ _ _ _ _ _ _ _ _ _ _ _ _)))))
  refine Ev.bind aa (Ev.no (by simp) (Ev.bind ac (Ev.no (by simp) ?_)));unfold dw.l0;refine Ev.bind (jI wa.ok.s _) (Ev.bind (jI wb.ok.s _) (Ev.bind f1 ?_));obtain ⟨j,hj⟩:∃ j,j=Int.tmod (wq i) 300:=⟨_,rfl⟩;have hjb : -300<j∧j<300:=by
    have h1:=Int.tmod_lt_of_pos (wq i) (show (0:Int)<300 by omega);have h2:=Int.lt_tmod_of_pos (wq i) (show (0:Int)<300 by omega);omega
  rw [← hj];have va:jJ p c core odd j=(gF A j,0):=by
    have e:gF A j=gT p c core odd j:=sP (O:=⟨p,c,core,odd⟩) wa.ok.s sA j;rw [wa.qp (by omega),e]
  have vb:jJ p' c' gQ mE j=(gF B j,0):=by
    have e:gF B j=gT p' c' gQ mE j:=sP (O:=⟨p',c',gQ,mE⟩) wb.ok.s sB j;rw [wb.qp (by omega),e]
  rw [va,vb];refine Ev.yes (by simp) (Ev.yes (by simp) ?_);by_cases h1:gF A j=[]
  · exact Ev.no (by simp [h1]) l1
  refine Ev.yes (by have:=List.length_pos_iff.2 h1;simp;exact this) ?_;by_cases h2:gF B j=[]
  · exact Ev.no (by simp [h2]) l1
  refine Ev.yes (by have:=List.length_pos_iff.2 h2;simp;exact this) ?_;obtain ⟨s,s1,s2⟩:=wo (gF A j) (gF B j) (by have:=a.nf.ln j;omega);refine Ev.bind s1 ?_;cases s with
  | true=>exact Ev.no (by simp) l1
  | false =>
    refine Ev.yes rfl ?_;have hal:¬ oD A B:=fun h=>absurd (s2.2 (aft a.nf b.nf h j h1 h2)) (by simp);have he:is.1=false:=by
      cases e:is.1 with
      | false=>rfl
      | true=>exact absurd (f2.1 e) hal
    refine Ev.no (by simp [he]) ?_;rcases f3 with e | e
    · exact Ev.no (by simp [e]) l1
    · exact Ev.yes (by simp [e]) (Ev.no (by simp [e]) l1)
end Go.Proofs.YtcomnjodjijcmaaGreat.U
namespace Go.Proofs.YtcomnjodjijcmaaGreat.setsShape
open Go.ChangeShapes Go.WideShapes Go.ChangeAt Go.RowKit
open Go.ChangeMaps (open_string shut_string)
set_option linter.unusedVariables false
theorem own:ownKnob Tryz.prog.godebug=none:=by kernel_rfl
theorem laidOut:laidOutB Tryz.prog=true:=by kernel_rfl
set_option maxRecDepth 100000 in
theorem lifted (os:Os) (started:os.Started) (H:Type) (enc:TypeId × Value→H) :
    ReturnsInHanded {} Tryz.checked os 5 .any (Rows.setsShapeSpec.pre6 enc Tryz.prog Tryz.f5 Rows.setsShapeRow.domain false) (Rows.setsShapeSpec.post enc Tryz.prog Tryz.f5 false true false false):=by
  refine returnsInHanded_of_change_sized (C:=Tryz.checked) own started (by kernel_rfl) Tryz.func5
    (ChangeSpec.witness6 (enc:=enc) (C:=Tryz.checked) false ⟨#[],#[.agg #[.int .i64 0,.int .i64 0,.slice none 0 0,.slice none 0 0],.agg #[.int .i64 0,.int .i64 0,.slice none 0 0,.slice none 0 0],.int .i16 0],[]⟩ 8 (by kernel_rfl) (by kernel_rfl) (by kernel_rfl) (by kernel_rfl)) ?_
  intro W base args ds gs before hval0 hW hcnd hsz0 _;have hval:∀ (j:Nat) t v,Tryz.f5.params[j]? = some t→args[j]? = some v→Value.okWide Tryz.prog W .any base t v:=hval0;have hW':=hW;obtain ⟨p,q,ao,hV,rfl,hfz,hnd⟩:=hW;have hA:DataW.TrodAll enc Tryz.prog W 0 (fun _=>true) true Tryz.f5.params.toList args.toList ds p:=ao;rw [Tryz.params5] at hA hval;obtain ⟨v0,aF,d0,ds0,p0,q0,hargs,rfl,rfl,h0,r0⟩:=trodAll_cons hA;obtain ⟨v1,vs1,d1,ds1,p1,q1,rfl,rfl,rfl,h1,r1⟩:=trodAll_cons r0;obtain ⟨v2,vs2,d2,aG,p2,q2,rfl,rfl,rfl,h2,r2⟩:=trodAll_cons r1;obtain ⟨rfl,rfl,rfl⟩:=trodAll_nil r2;obtain rfl:args=#[v0,v1,v2]:=by cases args;simp_all
  obtain ⟨rfl,rfl⟩:=trodVars_none hV;have k0:=h0;have aq:∀ x∈p0,x.block<W.heap.size:=by obtain ⟨m,hm⟩:=k0;exact DataW.trod_lt m _ _ _ hm
  obtain ⟨aa,ab,aH,aI,ac,aJ,aK,af,rfl,au,aw,ax,ay,az⟩:=P.uO (hval 0 25 v0 rfl rfl) h0;have k1:=h1;have aA:∀ x∈p1,x.block<W.heap.size:=by obtain ⟨m,hm⟩:=k1;exact DataW.trod_lt m _ _ _ hm
  obtain ⟨ah,ai,aL,aM,aj,aN,aO,ak,rfl,aB,fx1,aC,aD,aE⟩:=P.uO (hval 1 25 v1 rfl rfl) h1;obtain ⟨a2,rfl,rfl,rfl,w2⟩:=open_int Tryz.underlying36 (hval 2 36 v2 rfl rfl) h2;clear ao hval0 hsz0;obtain ⟨kk,hP⟩:=U.SetsShape aa ab ac af az ah ai aj ak aE a2 w2;refine (M.aaT (R.dw.ok kk) (W:=W) (a:=((⟨aa,ab,ac,af⟩:P.S25),(⟨ah,ai,aj,ak⟩:P.S25),a2,())) (vs:=[.agg #[.int .i64 aa,.int .i64 ab,.slice _ ac.length _,.slice _ af.length _],.agg #[.int .i64 ah,.int .i64 ai,.slice _ aj.length _,.slice _ ak.length _],.int .i16 a2]) ⟨⟨_,M.fm0 _ _ au aw ax ay,rfl⟩,⟨⟨_,M.fm0 _ _ aB fx1 aC aD,rfl⟩,⟨⟨_,rfl,rfl⟩,trivial⟩⟩⟩ hP).mono fun e W' ⟨he,ap⟩ => ?_;have am:=ap;subst he;exact ⟨_,rfl,_,_,_,[],_,[],hW',trodAll_mk1 (shut_bool Tryz.underlying4 _),(trodAll_cons_mk (Below.trod laidOut (by kernel_rfl) (of_decide_eq_true (by kernel_rfl)) k0 am aq) (trodAll_cons_mk (Below.trod laidOut (by kernel_rfl) (of_decide_eq_true (by kernel_rfl)) k1 am aA) (trodAll_cons_mk (shut_int Tryz.underlying36 w2) trodAll_mk0))),rfl,am.frame _,fun h=>by cases h⟩
theorem over:Rows.setsShapeRow.holds Tryz.pinned (OpenSpec.ofChange Rows.setsShapeSpec) :=
  OpenClaim.holds_of_wide 5 Tryz.f5 rfl rfl rfl rfl rfl rfl rfl ⟨rfl,rfl,rfl,rfl,rfl⟩ rfl rfl rfl rfl rfl (by kernel_rfl) Tryz.func5 (by kernel_rfl)
    (of_decide_eq_true (by kernel_rfl)) (by unfold Func.isWrapper;first | (rw [if_pos (by decide +kernel)];kernel_rfl) | (rw [if_neg (by decide +kernel)];exact ⟨rfl,rfl⟩))
    (fun os started H enc _=>lifted os started H enc)
theorem proved:Rows.SetsShapeSaid:=over
#print axioms proved
end Go.Proofs.YtcomnjodjijcmaaGreat.setsShape
namespace Go.Proofs.YtcomnjodjijcmaaGreat
theorem setsShape_holds:Rows.SetsShapeSaid:=setsShape.proved
end Go.Proofs.YtcomnjodjijcmaaGreat

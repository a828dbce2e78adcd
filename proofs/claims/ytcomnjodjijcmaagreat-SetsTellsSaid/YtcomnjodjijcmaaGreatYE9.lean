/- Lemmas for laws of chapter 7: what the functions that they reach compute. No condition of its own. -/
import Derived.Test.YtcomnjodjijcmaaGreatYE8
import Derived.Test.YtcomnjodjijcmaaGreatYE2
import Derived.KernelRfl
import Derived.WalkSpells
import Derived.Lib.LazyBuf
import Derived.OwnWalk
import Derived.Deep.DeepMust
import Derived.Lib.Hide
import Derived.ScopeJumps
import Derived.Shelf.Sort.AssemblyIn
import Derived.Sort.EveryDepth
import Derived.Shelf.Slices.CompactI
import Derived.Shelf.Slices.In.SortNone
import Derived.Lib.RowBridge
namespace Go.Proofs.YtcomnjodjijcmaaGreat.M
noncomputable section
set_option linter.unusedVariables false
set_option linter.unusedSimpArgs false
open Go.RowKit Go.Proofs.YtcomnjodjijcmaaGreatW.dz Go.Proofs.YtcomnjodjijcmaaGreatW.dX
def Ty.ag:Ty→Bool
  | .sp | .gr | .fm | .ff | .pr=>true
  | _=>false
def mkP (t:Ty) (x:t.T):Pt:=match t.cells x with
  | [c]=>.one c
  | cs=>.agg cs
def rdP (t:Ty):Pt→Option t.T
  | .one c=>if t.ag=true then none else t.of [c]
  | .agg cs=>if t.ag=true then t.of cs else none
def VW (t:Ty) (vs:List Value) (v:Value):Prop:=if t.ag=true then v=.agg vs.toArray else vs=[v]
def mE:List Ty→Type
  | []=>Unit
  | t :: ts=>t.T × mE ts
def jD:(ts:List Ty)→mE ts→List AV
  | [],_=>[]
  | t :: ts,a=>.pt (mkP t a.1) :: jD ts a.2
def mM:(ts:List Ty)→List AV→Option (mE ts)
  | [],[]=>some ()
  | t :: ts,.pt p :: ys=>match rdP t p,mM ts ys with
    | some x,some a=>some (x,a)
    | _,_=>none
  | _,_=>none
def fx1:Cell→Cell→Bool
  | .v (.int k n),.v (.int k' n')=>decide (k=k')&&decide (n=n')
  | .fn f [],.fn f' []=>Nat.beq f f'
  | _,_=>false
def fxs:List Cell→List Cell→Bool
  | [],[]=>true
  | c :: cs,d :: ds=>fx1 c d&&fxs cs ds
  | _,_=>false
theorem afo {nb nb':Nat} {g g':Gh} {W W':World} {ℓ ℓ':Loc} {c d:Cell} {v:Value} (h:fx1 c d=true) (hc:CR nb g W ℓ c v):CR nb' g' W' ℓ' d v:=by
  unfold fx1 at h;split at h
  · simp at h
    obtain ⟨rfl,rfl⟩:=h;exact hc
  · cases Nat.eq_of_beq_eq_true h
    exact ⟨fun l hl=>by simp at hl,hc.2⟩
  · cases h
theorem adv {nb nb':Nat} {g g':Gh} {W W':World} {loc loc':Nat→Loc}:∀ {cs ds:List Cell} {vs:List Value},fxs cs ds=true→CsR nb g W loc cs vs→CsR nb' g' W' loc' ds vs
  | [],[],vs,_,hc=>⟨hc.1,fun k c v h=>by simp at h⟩
  | [],_ :: _,vs,h,hc=>by cases h
  | _ :: _,[],vs,h,hc=>by cases h
  | c :: cs,d :: ds,[],h,hc=>by simp [CsR] at hc
  | c :: cs,d :: ds,v :: vs,h,hc=>by
    have h:(fx1 c d&&fxs cs ds)=true:=h;rw [Bool.and_eq_true] at h;obtain ⟨q1,q2⟩:=adv (nb':=nb') (g':=g') (W':=W') (loc:=fun k=>loc (k+1)) (loc':=fun k=>loc' (k+1)) h.2 (⟨by simpa using hc.1,fun k c v h1 h2=>hc.2 (k+1) c v (by simpa using h1) (by simpa using h2)⟩:CsR nb g W (fun k=>loc (k+1)) cs vs);refine ⟨by simp [q1],fun k c' v' h1 h2 => ?_⟩;cases k with
    | zero =>
      simp at h1 h2
      subst h1;subst h2;exact afo h.1 (hc.2 0 c v rfl rfl)
    | succ k=>exact q2 k c' v' (by simpa using h1) (by simpa using h2)
inductive RT where
  | pl (k:Ty)
  | own (e:TypeId) (t:Ty)
  | fx (cs:List Cell)
def RT.T:RT→Type
  | .pl k=>k.T
  | .own _ t=>List t.T
  | .fx _=>Unit
def RT.mk:(r:RT)→r.T→Pt
  | .pl k,x=>mkP k x
  | .own e t,xs=>.one (.ow e t xs)
  | .fx cs,_=>.agg cs
def RT.rd:(r:RT)→Pt→Option r.T
  | .pl k,p=>rdP k p
  | .own e t,.one (.ow e' t' xs)=>if e'=e then (if h:t'=t then some (h ▸ xs) else none) else none
  | .own _ _,_=>none
  | .fx cs,.agg ds=>if fxs ds cs=true then some () else none
  | .fx _,_=>none
def sM:List RT→Type
  | []=>Unit
  | [r]=>r.T
  | r :: s :: rs=>r.T × sM (s :: rs)
def qO:(rs:List RT)→sM rs→List Pt
  | [],_=>[]
  | [r],x=>[r.mk x]
  | r :: s :: rs,x=>r.mk x.1 :: qO (s :: rs) x.2
def zF:(rs:List RT)→List Pt→Option (sM rs)
  | [],[]=>some ()
  | [r],[p]=>r.rd p
  | r :: s :: rs,p :: ps=>match r.rd p,zF (s :: rs) ps with
    | some x,some y=>some (x,y)
    | _,_=>none
  | _,_=>none
def zG (rs:List RT) (x:sM rs):AV:=mD (qO rs x)
def aem (rs:List RT):AV→Option (sM rs)
  | .pt p=>zF rs [p]
  | .tup ps=>if ps.length=1 then none else zF rs ps
def K0 (rs:List RT) (r:AV) (bx:List Bx):Option (sM rs):=match bx with
  | []=>aem rs r
  | _=>none
def jd (ts:List Ty) (rs:List RT) (F:mE ts→Option (sM rs)):Sm:=⟨sM rs,fun ys=>(mM ts ys).map F,zG rs⟩
section
variable {nb nb':Nat} {g g':Gh} {W W':World} {fr d i:Nat}
theorem afp {loc:Nat→Loc} {t:Ty}:{p:Pt}→{x:t.T}→{v:Value}→rdP t p=some x→PtR nb g W loc p v→∃ vs,t.R (jW g W) x vs∧VW t vs v
  | .one c,x,v,h,hr=>by
    simp only [rdP] at h;split at h
    · cases h
    · rename_i ha
      exact ⟨[v],Ty.aaq h (loc:=loc) ⟨rfl,fun k c' v' h1 h2=>by
        cases k with
        | zero=>simp at h1 h2;subst h1;subst h2;exact hr
        | succ k=>simp at h1⟩,by unfold VW;rw [if_neg ha]⟩
  | .agg cs,x,v,h,⟨vs,e,hr⟩=>by
    simp only [rdP] at h;split at h
    · rename_i ha
      exact ⟨vs.toList,Ty.aaq h hr,by unfold VW;rw [if_pos ha];simpa using e⟩
    · cases h
theorem aen (loc:Nat→Loc):(t:Ty)→(x:t.T)→{vs:List Value}→{v:Value}→t.R (jW g W) x vs→VW t vs v→PtR nb g W loc (mkP t x) v:=by
  intro t x vs v hR hv;have hc:=Ty.cells_ok (nb:=nb) loc t x vs hR;unfold VW at hv;have one:∀ c,t.cells x=[c]→t.ag=false→PtR nb g W loc (mkP t x) v:=fun c hc1 ha=>by
    rw [if_neg (by rw [ha];simp)] at hv;subst hv;unfold mkP;rw [hc1] at hc ⊢;exact hc.2 0 _ _ rfl rfl
  have agg:t.ag=true→(∀ c,t.cells x≠[c])→PtR nb g W loc (mkP t x) v:=fun ha hne=>by
    rw [if_pos ha] at hv;unfold mkP;split
    · rename_i c hcc;exact (hne c hcc).elim
    · exact ⟨vs.toArray,hv,by simpa using hc⟩
  cases t with
  | int k=>exact one _ rfl rfl
  | bool=>exact one _ rfl rfl
  | str=>exact one _ rfl rfl
  | sp=>exact agg rfl (fun c h=>by simp [Ty.cells] at h)
  | gr=>exact agg rfl (fun c h=>by simp [Ty.cells] at h)
  | fm=>exact agg rfl (fun c h=>by simp [Ty.cells] at h)
  | ff=>exact agg rfl (fun c h=>by simp [Ty.cells] at h)
  | pr=>exact agg rfl (fun c h=>by simp [Ty.cells] at h)
  | sl e t=>exact one _ rfl rfl
theorem nJ {g0:Gh} (h0:g0.pr=g.pr):∀ {ts:List Ty} {ys:List AV} {a:mE ts} {vs:List Value},mM ts ys=some a→ys.length=vs.length→(∀ (i:Nat) (x:AV) (v:Value),ys[i]? = some x→vs[i]? = some v→∀ fr' i',AVR nb g W fr' i' x v) →
    (jD ts a).length=vs.length∧∀ (i:Nat) (x:AV) (v:Value),(jD ts a)[i]? = some x→vs[i]? = some v→∀ fr' i',AVR nb' g0 W fr' i' x v
  | [],[],a,vs,h,hl,hy=>⟨hl,fun i x v hx=>by simp [jD] at hx⟩
  | [],_ :: _,a,vs,h,hl,hy=>by simp [mM] at h
  | _ :: _,[],a,vs,h,hl,hy=>by simp [mM] at h
  | t :: ts,.tup ps :: ys,a,vs,h,hl,hy=>by simp [mM] at h
  | t :: ts,.pt p :: ys,a,[],h,hl,hy=>by simp at hl
  | t :: ts,.pt p :: ys,a,v :: vs,h,hl,hy=>by
    simp only [mM] at h;split at h
    case h_2=>cases h
    rename_i x b h1 h2
    cases h
    obtain ⟨q1,q2⟩:=nJ h0 h2 (by simpa using hl) (fun i x v hx hv=>hy (i+1) x v (by simpa using hx) (by simpa using hv));refine ⟨by simp [jD,q1],fun i z u hz hu fr' i' => ?_⟩;cases i with
    | zero =>
      simp [jD] at hz hu
      subst hz;subst hu;obtain ⟨ws,hR,hW⟩:=afp h1 (hy 0 _ _ rfl rfl 0 0);refine aen _ t x (Ty.jr (fun a v hc => ?_) t x ws hR) hW;exact ⟨hc.1,by rw [h0];exact hc.2⟩
    | succ i=>exact q2 i z u (by simpa [jD] using hz) (by simpa using hu) fr' i'
theorem afq {g2:Gh} (h0:g2.pr=g'.pr) (h2:∀ b ℓ,g'.ow b=some ℓ→g2.ow b=some ℓ) {loc:Nat→Loc}:{r:RT}→{p:Pt}→{x:r.T}→{v:Value}→r.rd p=some x→PtR 0 g' W' loc p v→PtR nb g2 W' loc (r.mk x) v
  | .pl k,p,x,v,h,hr=>by
    obtain ⟨ws,hR,hW⟩:=afp (t:=k) h hr;exact aen _ k x (Ty.jr (fun a v hc=>⟨hc.1,by rw [h0];exact hc.2⟩) k x ws hR) hW
  | .fx cs,.one c,x,v,h,hr=>by cases h
  | .fx cs,.agg ds,x,v,h,⟨vs,e,hr⟩=>by
    simp only [RT.rd] at h;split at h
    · rename_i hf
      exact ⟨vs,e,adv hf hr⟩
    · cases h
  | .own e k,.agg cs,x,v,h,hr=>by cases h
  | .own e k,.one c,x,v,h,hr=>by
    cases c with
    | ow e' k' xs =>
      simp only [RT.rd] at h;split at h
      case isFalse=>cases h
      rename_i he
      split at h
      case isFalse=>cases h
      rename_i hk
      subst he;subst hk;cases h;obtain ⟨h1,h3,h4⟩:=hr;have hcp:∀ a v,jW g' W' a v→jW g2 W' a v:=fun a v hc=>⟨hc.1,by rw [h0];exact hc.2⟩;exact ⟨h1.mono (k'.jr hcp) hcp,h3,fun b hb=>⟨h2 _ _ (h4 b hb).1,fun o ho=>(h4 b hb).2 o (by rw [← h0];exact ho)⟩⟩
    | _=>cases h
theorem sN {g2:Gh} (h0:g2.pr=g'.pr) (h2:∀ b ℓ,g'.ow b=some ℓ→g2.ow b=some ℓ):∀ {rs:List RT} {ps:List Pt} {x:sM rs} {vs:List Value} (j0:Nat),zF rs ps=some x→(∀ (j:Nat) (p:Pt) (v:Value),ps[j]? = some p→vs[j]? = some v→PtR 0 g' W' (.tm fr d (j0+j)) p v) →
    (qO rs x).length=ps.length∧∀ (j:Nat) (p:Pt) (v:Value),(qO rs x)[j]? = some p→vs[j]? = some v→PtR nb g2 W' (.tm fr d (j0+j)) p v
  | [],[],x,vs,j0,h,hp=>⟨rfl,fun j p v h1=>by simp [qO] at h1⟩
  | [],_ :: _,x,vs,j0,h,hp=>by cases h
  | [r],[p],x,vs,j0,h,hp=>⟨rfl,fun j p' v h1 hv=>by
    cases j with
    | zero =>
      simp [qO] at h1
      subst h1;exact afq h0 h2 h (hp 0 p v rfl hv)
    | succ j=>simp [qO] at h1⟩
  | [r],[],x,vs,j0,h,hp=>by cases h
  | [r],_ :: _ :: _,x,vs,j0,h,hp=>by cases h
  | r :: s :: rs,[],x,vs,j0,h,hp=>by cases h
  | r :: s :: rs,p :: ps,x,vs,j0,h,hp=>by
    have h:(match r.rd p,zF (s :: rs) ps with | some x,some y=>some (x,y) | _,_=>none)=some x:=h;cases h1:r.rd p with
    | none=>rw [h1] at h;cases h
    | some y =>
      cases h3:zF (s :: rs) ps with
      | none=>rw [h1,h3] at h;cases h
      | some z =>
        rw [h1,h3] at h;have e:(y,z)=x:=Option.some.inj h;obtain ⟨q1,q2⟩:=sN h0 h2 (vs:=vs.drop 1) (j0+1) h3 (fun j p' v hp' hv=>by
          have:=hp (j+1) p' v (by simpa using hp') (by simpa [Nat.add_comm] using hv);rwa [Nat.add_assoc,Nat.add_comm 1 j])
        have em:qO (r :: s :: rs) x=r.mk y :: qO (s :: rs) z:=by rw [← e];rfl
        rw [em];refine ⟨congrArg (· + 1) q1,fun j p' v hp' hv => ?_⟩;cases j with
        | zero =>
          have e1:r.mk y=p':=Option.some.inj hp';subst e1;exact afq h0 h2 h1 (hp 0 p v rfl hv)
        | succ j =>
          have:=q2 j p' v hp' (by simpa [Nat.add_comm] using hv);rwa [Nat.add_assoc,Nat.add_comm 1 j] at this
theorem acP {ps:List Pt} (h:ps.length≠1):mD ps=.tup ps:=by
  match ps with
  | []=>rfl
  | [p]=>exact (h rfl).elim
  | _ :: _ :: _=>rfl
theorem aaU {ps:List Pt} {p:Pt} (h:ps[0]? = some p) (hl:ps.length=1):mD ps=.pt p:=by
  match ps,hl with
  | [q],_=>simp at h;subst h;rfl
theorem acQ {g2:Gh} (h0:g2.pr=g'.pr) (h2:∀ b ℓ,g'.ow b=some ℓ→g2.ow b=some ℓ) {rs:List RT}:{r:AV}→{x:sM rs}→{v:Value}→aem rs r=some x→AVR 0 g' W' fr d r v→AVR nb g2 W' fr d (zG rs x) v
  | .pt p,x,v,h,hr=>by
    obtain ⟨q1,q2⟩:=sN (nb:=nb) (fr:=fr) (d:=d) h0 h2 (vs:=[v]) 0 h (fun j p' v' hp' hv=>by
      cases j with
      | zero=>simp at hp' hv;subst hp';subst hv;exact hr
      | succ j=>simp at hp')
    have hl:0<(qO rs x).length:=by rw [q1];exact Nat.one_pos
    have:=q2 0 _ v (List.getElem?_eq_getElem hl) rfl;unfold zG;rw [aaU (List.getElem?_eq_getElem hl) q1];exact this
  | .tup ps,x,v,h,⟨vs,e,hl,hr⟩=>by
    simp only [aem] at h;split at h
    · cases h
    · rename_i hne
      obtain ⟨q1,q2⟩:=sN (nb:=nb) (fr:=fr) (d:=d) h0 h2 (vs:=vs.toList) 0 h (fun j p' v' hp' hv=>by rw [Nat.zero_add];exact hr j p' v' hp' (by simpa using hv));unfold zG;rw [acP (by rw [q1];exact hne)];exact ⟨vs,e,by rw [q1];exact hl,fun j p v hp hv=>by have:=q2 j p v hp (by simpa using hv);rwa [Nat.zero_add] at this⟩
def Gh.mix (g g':Gh) (n:Nat):Gh:={ ow:=fun b=>if b<n then g.ow b else g'.ow b,pr:=g'.pr,bx:=g.bx,lr:=g.lr,lv:=g.lv,av:=g.av }
def iV (P:Program) (f:FuncId) (s:List AV→Option AV):Prop:=∃ fn,P.funcs[f]? = some fn∧(fn.name == "runtime.NumGoroutine")=false∧fn.body.isSome=true ∧
  ∀ (nb:Nat) (g:Gh) (W:World) (fr d:Nat) (ys:List AV) (vs:Array Value) (r:AV),Wf g W→ys.length=vs.size→(∀ (i:Nat) (x:AV) (v:Value),ys[i]? = some x→vs[i]? = some v→∀ fr' i',AVR nb g W fr' i' x v)→s ys=some r →
    Calls P f vs W fun e W'=>∃ v,e=.returned v∧∃ g',Wf g' W'∧g'.lv=g.lv∧Evo (fun _=>True) nb g W g' W'∧AVR nb g' W' fr d r v
theorem aeo {P:Program} {Ek:Nat→oM} {fns:FuncId→Option Func} {rs:List RT} {A:aeY (sM rs)} {n f:Nat} {fn:Func} {ts:List Ty} {F:mE ts→Option (sM rs)}
    (hm:P.follows .mixedOrders=true) (hT:∀ k,lX P (Ek k).T) (hS:∀ k,nV P ((Ek k).env fns)) (hF:aff P fns) (hok:∀ m,m≤n→∀ f fn,fns f=some fn→afn Ek fns (A.at m f) (qM (fun k=>(Ek k).env fns) fns A.an m) fn∧∀ l T,A.yd m f l=some T→abX T)
    (ab:fns f=some fn) (hb:fn.body.isSome=true)
    (h:∀ (a:mE ts) (x:sM rs),F a=some x→∃ k,aaS Ek (A.at n f) (vo Ek fns A n (A.yd n f)) (fun _=>none) k fn [] (jD ts a) [] (K0 rs)=some x):iV P f (jd ts rs F).s:=by
  obtain ⟨hf,hn⟩:=hF f fn ab;refine ⟨fn,hf,hn,hb,fun nb g W fr d ys vs r hw hl hy hs => ?_⟩;obtain ⟨o,ho,hr⟩:=Option.bind_eq_some_iff.mp hs;obtain ⟨a,ha,rfl⟩:=Option.map_eq_some_iff.mp ho;obtain ⟨x,hx,rfl⟩:=Option.map_eq_some_iff.mp hr;obtain ⟨k,hx2⟩:=h a x hx;obtain ⟨q1,q2⟩:=hok n (Nat.le_refl n) f fn ab;replace hx2:=xY (A:=A.at n f) (qp n _ q2 (fun m hm=>hok m (Nat.le_of_lt hm))) q1 (Y:=fun _=>none) (fun q hk h=>by cases h) hx2;obtain ⟨⟨r',bx'⟩,hd,hk⟩:=Option.bind_eq_some_iff.mp hx2;unfold K0 at hk;split at hk
  case h_2=>cases hk
  rename_i hbx
  simp only at hbx hk;subst hbx;obtain ⟨q1,q2⟩:=nJ (nb':=0) (g:=g) (W:=W) (g0:={ ow:=fun _=>none,pr:=g.pr,bx:=g.bx,lr:=g.lr,lv:=fun _=>False,av:=g.av }) rfl ha (vs:=vs.toList) (by simpa using hl) (fun i x v hx hv=>hy i x v hx (by simpa using hv));obtain ⟨_,aa⟩:=aaN (fr:=fr) hm hT hS (xU (aef:=A.an) hm hT hS hF n) hf (g:={ ow:=fun _=>none,pr:=g.pr,bx:=g.bx,lr:=g.lr,lv:=fun _=>False,av:=g.av }) (W:=W) (bx:=[]) (vs:=vs) (fun q h hq=>by cases hq) ⟨hw.pr,fun b ℓ e=>by cases e⟩ (fun l B hB=>by simp at hB) (fun l _ h=>h) (fun l hl=>by simp at hl) (by simpa using q1) (fun i x v hx hv=>q2 i x v hx (by simpa using hv)) hd d;rw [show vs++(([]:List Nat).map fun l=>Value.pointer (some ⟨g.bx l,0,none⟩)).toArray=vs by simp] at aa;refine aa.mono ?_;rintro e W' ⟨v,rfl,g',k1,k2,k3,k4,k5,k6⟩;have hnone:∀ b,b<W.heap.size→g'.ow b=none:=fun b hb=>(k5.far b hb (fun ℓ e=>by cases e)).2.1;have ac:AVR nb (g.mix g' W.heap.size) W' fr d (zG rs x) v:=acQ (g':=g') (g2:=g.mix g' W.heap.size) rfl (fun b ℓ hb=>by
    show (if b<W.heap.size then g.ow b else g'.ow b)=_;split
    · rename_i hlt;rw [hnone b hlt] at hb;cases hb
    · exact hb) hk k6
  refine ⟨v,rfl,g.mix g' W.heap.size,⟨k1.pr,fun b ℓ hb => ?_⟩,rfl,⟨k5.os,k5.tape,k5.output,k5.size,k5.keep,fun b hb _ => ?_,fun l _ hv=>⟨hv,rfl,rfl,rfl⟩⟩,ac⟩
  · have hb:(if b<W.heap.size then g.ow b else g'.ow b)=some ℓ:=hb
    split at hb
    · rename_i hlt;exact Nat.lt_of_lt_of_le hlt k5.size
    · exact k1.ow b ℓ hb
  · obtain ⟨f1,f2,f3⟩:=k5.far b hb (fun ℓ e=>by cases e)
    exact ⟨f1,if_pos hb,f3⟩
theorem acR {P:Program} {E:oM} {fns:FuncId→Option Func} (hN:∀ f,E.nw f=true→uQ P f) (hM:∀ f m,E.mt f=some m→aeU P f m) (h:∀ f m,E.sm f=some m→iV P f m.s):nV P (E.env fns):=⟨hN,hM,fun f s hs=>by
  obtain ⟨m,hm,rfl⟩:=Option.map_eq_some_iff.mp hs;exact h f m hm⟩
end
end
end Go.Proofs.YtcomnjodjijcmaaGreat.M
namespace Go.Proofs.YtcomnjodjijcmaaGreat.M
noncomputable section
set_option linter.unusedVariables false
set_option linter.unusedSimpArgs false
open Go.RowKit Go.Proofs.YtcomnjodjijcmaaGreatW.dz Go.Proofs.YtcomnjodjijcmaaGreatW.dX
structure Nd where
  key:Nat
  j:Bool
  c:Code
  cur:Nat
def kZ:Code→Nat→List Nd
  | .seq x y,cur=>kZ x cur++⟨jn y,true,y,cur⟩ :: kZ y cur
  | .cond _ x y,cur=>kZ x cur++kZ y cur
  | .block id x,_=>kZ x id
  | .loop x,cur=>⟨cur,false,x,cur⟩ :: kZ x cur
  | .rangeFunc _ _ x y,cur=>kZ x cur++kZ y cur
  | .scope x,cur=>kZ x cur
  | _,_=>[]
section
variable {γ:Type} {Ek:Nat→oM} {fns:FuncId→Option Func} {A:adu γ} {fF:Hd→Nat→ji} {lS:HdK γ→Nat→lQ γ}
def ndC (Ek:Nat→Env) (A:Ann) (fF:Hd→Nat→ji) (q:Nd) (Y:Hd) (rl:Option Nat) (k:Nat) (σ:St):Option (dQ × St):=match q.j with
  | true=>(iY Ek A fF Y rl q.c k q.cur σ).map fun r=>(r.1,zw (A.xk q.key) r.2)
  | false=>zu (fun k σ=>iY Ek A fF Y rl q.c k q.cur σ) (A.lk q.key) (A.xk q.key) σ.bx.length k σ
def aeZ (Ek:Nat→oM) (fns:FuncId→Option Func) (A:adu γ) (fF:Hd→Nat→ji) (p:Nd):Prop:=match A.lp p.key with
  | some h=>∀ Y YK rl k,abY Y YK→sH (ndC (fun k=>(Ek k).env fns) A.an fF p Y rl k) (h YK rl k)
  | none=>True
theorem wI:∀ (c:Code) (cur:Nat),(∀ p∈kZ c cur,aeZ Ek fns A fF p)→wH Ek fns A fF c cur:=by
  intro c;induction c with
  | seq x y aa ihy =>
    intro cur h;refine ⟨aa cur (fun p hp=>h p (List.mem_append_left _ hp)),?_⟩;have h0:=h ⟨jn y,true,y,cur⟩ (List.mem_append_right _ List.mem_cons_self);unfold aeZ at h0;simp only at h0;cases hl:A.lp (jn y) with
    | some f=>simp only [hl] at h0 ⊢;exact h0
    | none=>exact ihy cur (fun p hp=>h p (List.mem_append_right _ (List.mem_cons_of_mem _ hp)))
  | cond _ x y aa ihy=>exact fun cur h=>⟨aa cur (fun p hp=>h p (List.mem_append_left _ hp)),ihy cur (fun p hp=>h p (List.mem_append_right _ hp))⟩
  | rangeFunc _ _ x y aa ihy=>exact fun cur h=>⟨aa cur (fun p hp=>h p (List.mem_append_left _ hp)),ihy cur (fun p hp=>h p (List.mem_append_right _ hp))⟩
  | block id x ih=>exact fun cur h=>ih id h
  | scope x ih=>exact fun cur h=>ih cur h
  | loop x ih =>
    intro cur h;have h0:=h ⟨cur,false,x,cur⟩ List.mem_cons_self;unfold aeZ at h0;unfold wH;simp only at h0;cases hl:A.lp cur with
    | some f=>simp only [hl] at h0 ⊢;exact h0
    | none=>exact ih cur (fun p hp=>h p (List.mem_cons_of_mem _ hp))
  | _=>exact fun cur h=>trivial
theorem aaV {E:Env} {mv:Nat→Bool}:∀ (c:Code) (cur:Nat),okC E mv c=true→∀ p∈kZ c cur,okC E mv p.c=true:=by
  intro c;induction c with
  | seq x y ihx ihy =>
    intro cur h p hp;have h:=(Bool.and_eq_true _ _ ▸ h:_∧_);rcases List.mem_append.1 hp with hp | hp
    · exact ihx cur h.1 p hp
    · rcases List.mem_cons.1 hp with rfl | hp
      · exact h.2
      · exact ihy cur h.2 p hp
  | cond _ x y ihx ihy=>exact fun cur h p hp=>(List.mem_append.1 hp).elim (ihx cur (Bool.and_eq_true _ _ ▸ h:_∧_).1 p) (ihy cur (Bool.and_eq_true _ _ ▸ h:_∧_).2 p)
  | block id x ih=>exact fun cur h p hp=>ih id h p hp
  | scope x ih=>exact fun cur h p hp=>ih cur h p hp
  | loop x ih=>exact fun cur h p hp=>(List.mem_cons.1 hp).elim (fun e=>by rw [e];exact h) (ih cur h p)
  | rangeFunc f ps x y ihx ihy=>exact fun cur h p hp=>(List.mem_append.1 hp).elim (ihx cur (Bool.and_eq_true _ _ ▸ h:_∧_).1 p) (ihy cur (Bool.and_eq_true _ _ ▸ h:_∧_).2 p)
  | _=>exact fun cur h p hp=>by cases hp
theorem acS:∀ (c:Code) (cur:Nat),∀ q∈kZ c cur,∀ p∈kZ q.c q.cur,p∈kZ c cur:=by
  intro c;induction c with
  | seq x y ihx ihy =>
    intro cur q hq p hp;rcases List.mem_append.1 hq with hq | hq
    · exact List.mem_append_left _ (ihx cur q hq p hp)
    · rcases List.mem_cons.1 hq with rfl | hq
      · exact List.mem_append_right _ (List.mem_cons_of_mem _ hp)
      · exact List.mem_append_right _ (List.mem_cons_of_mem _ (ihy cur q hq p hp))
  | cond _ x y ihx ihy=>exact fun cur q hq p hp=>(List.mem_append.1 hq).elim (fun h=>List.mem_append_left _ (ihx cur q h p hp)) (fun h=>List.mem_append_right _ (ihy cur q h p hp))
  | rangeFunc _ _ x y ihx ihy=>exact fun cur q hq p hp=>(List.mem_append.1 hq).elim (fun h=>List.mem_append_left _ (ihx cur q h p hp)) (fun h=>List.mem_append_right _ (ihy cur q h p hp))
  | block id x ih=>exact fun cur q hq p hp=>ih id q hq p hp
  | scope x ih=>exact fun cur q hq p hp=>ih cur q hq p hp
  | loop x ih =>
    intro cur q hq p hp;rcases List.mem_cons.1 hq with rfl | hq
    · exact List.mem_cons_of_mem _ hp
    · exact List.mem_cons_of_mem _ (ih cur q hq p hp)
  | _=>exact fun cur q hq=>by cases hq
end
section
variable {γ:Type}
def PC.gen:PC→PC
  | .li k _=>.i k
  | .lb _=>.b
  | .ls t=>.s t
  | .lo q t=>.o q t
  | .lm q t=>.mu q t
  | p=>p
def afr:List PC→List Cell→Bool
  | [],[]=>true
  | p :: ps,c :: cs=>match p.gen.rd c with
    | some _=>afr ps cs
    | none=>false
  | _,_=>false
def PB.kin:PB→Bx→Bool
  | .box t ps,.box t' cs=>if t'=t then afr ps cs else false
  | .lmi,.mi _=>true
  | p,x=>(p.rd x).isSome
def afs:List PB→List Bx→Bool
  | [],[]=>true
  | p :: ps,x :: xs=>match p.kin x with
    | true=>afs ps xs
    | false=>false
  | _,_=>false
def yrd (b:Bool) (ps:List PB):AV→List Bx→Option (List Lf)
  | .pt (.one (.v (.bool c))),bx=>if c=b then (match afs ps bx with
    | true=>afl ps bx
    | false=>none) else none
  | _,_=>none
theorem rH {b:Bool} {ps:List PB} {x:AV} {bx:List Bx} {ls:List Lf} (h:yrd b ps x bx=some ls):x=mq b∧(zX ps ls).1=bx:=by
  unfold yrd at h;split at h
  · split at h
    · rename_i e
      split at h
      case h_2=>cases h
      have:=wG (r:=[]) h;rw [List.append_nil] at this;rw [this,e];exact ⟨rfl,rfl⟩
    · cases h
  · cases h
def oh (fn:Func):List Nd:=match fn.body with
  | some c=>kZ c 0
  | none=>[]
def lnd (fn:Func) (key:Nat):Nd:=((oh fn).find? fun p=>Nat.beq p.key key).getD ⟨0,false,.skip,0⟩
structure LpE (γ:Type) where
  n:Nat
  f:Nat
  cur:Nat
  h:LpK γ
structure YdE (γ:Type) where
  n:Nat
  f:Nat
  l:Nat
  T:YdK γ
def lpF:List (LpE γ)→Nat→Nat→Nat→Option (LpK γ)
  | [],_,_,_=>none
  | e :: r,n,f,c=>match Nat.beq e.n n&&(Nat.beq e.f f&&Nat.beq e.cur c) with
    | true=>some e.h
    | false=>lpF r n f c
def ydF:List (YdE γ)→Nat→Nat→Nat→Option (YdK γ)
  | [],_,_,_=>none
  | e :: r,n,f,c=>match Nat.beq e.n n&&(Nat.beq e.f f&&Nat.beq e.l c) with
    | true=>some e.T
    | false=>ydF r n f c
theorem aaW {h:LpK γ} {n f c:Nat}:∀ {t:List (LpE γ)},lpF t n f c=some h→∃ e∈t,e.n=n∧e.f=f∧e.cur=c∧e.h=h
  | [],hh=>by cases hh
  | e :: r,hh=>by
    unfold lpF at hh;split at hh
    · rename_i hb
      simp only [Bool.and_eq_true] at hb;exact ⟨e,List.mem_cons_self,Nat.eq_of_beq_eq_true hb.1,Nat.eq_of_beq_eq_true hb.2.1,Nat.eq_of_beq_eq_true hb.2.2,Option.some.inj hh⟩
    · obtain ⟨e',h1,h2⟩:=aaW hh
      exact ⟨e',List.mem_cons_of_mem _ h1,h2⟩
theorem wJ {T:YdK γ} {n f c:Nat}:∀ {t:List (YdE γ)},ydF t n f c=some T→∃ e∈t,e.T=T
  | [],hh=>by cases hh
  | e :: r,hh=>by
    unfold ydF at hh;split at hh
    · exact ⟨e,List.mem_cons_self,Option.some.inj hh⟩
    · obtain ⟨e',h1,h2⟩:=wJ hh
      exact ⟨e',List.mem_cons_of_mem _ h1,h2⟩
structure Ctx (γ:Type) where
  Ek:Nat→oM
  fl:List (Nat × Func)
  an:Nat→Ann
  lp:List (LpE γ)
  yd:List (YdE γ)
def lk.{u} {α:Type u} (t:Nat):List (Nat × α)→Option α
  | []=>none
  | (a,x) :: r=>match Nat.beq t a with
    | true=>some x
    | false=>lk t r
theorem kC.{u} {α:Type u} {t:Nat} {x:α}:∀ {l:List (Nat × α)},lk t l=some x→(t,x)∈l
  | [],h=>by cases h
  | (a,y) :: r,h=>by
    unfold lk at h;split at h
    · rename_i e
      cases h
      rw [Nat.eq_of_beq_eq_true e];exact List.mem_cons_self
    · exact List.mem_cons_of_mem _ (kC h)
def Ctx.fns (C:Ctx γ):FuncId→Option Func:=fun f=>lk f C.fl
def Ctx.A (C:Ctx γ):aeY γ:=⟨C.an,lpF C.lp,ydF C.yd⟩
def Ctx.env (C:Ctx γ):Nat→Env:=fun k=>(C.Ek k).env C.fns
def Ctx.cD (C:Ctx γ) (n:Nat):Hd→Nat→ji:=qM C.env C.fns C.an n
def Ctx.cK (C:Ctx γ) (n f:Nat):HdK γ→Nat→lQ γ:=vo C.Ek C.fns C.A n (ydF C.yd n f)
def Ctx.nK (C:Ctx γ) (n f:Nat) (q:Nd) (YK:HdK γ) (rl:Option Nat) (N k:Nat) (σ:St) (K:dQ→St→Option γ):Option γ:=match q.j with
  | true=>kP C.Ek (C.A.at n f) (C.cK n f) YK rl q.c k q.cur σ (acN ((C.an f).xk q.key) K)
  | false=>acM (fun k σ K=>kP C.Ek (C.A.at n f) (C.cK n f) YK rl q.c k q.cur σ K) ((C.an f).lk q.key) ((C.an f).xk q.key) N k σ K
def Ctx.lK (C:Ctx γ) (n f cur:Nat) (fn:Func) (YK:HdK γ) (rl:Option Nat) (N k:Nat) (σ:St) (K:dQ→St→Option γ):Option γ:=C.nK n f (lnd fn cur) YK rl N k σ K
def Ctx.has (C:Ctx γ) (f key:Nat):Bool:=C.lp.any fun e=>Nat.beq e.f f&&Nat.beq e.cur key
def Ctx.nds (C:Ctx γ) (f:Nat) (fn:Func):List Nd:=(oh fn).filter fun q=>C.has f q.key
def Ctx.bK (C:Ctx γ) (n f:Nat) (fn:Func) (k:Nat) (ys:List AV) (K:AV→List Bx→Option γ):Option γ:=aaS C.Ek (C.A.at n f) (C.cK n f) (fun _=>none) k fn [] ys [] K
def gu (C:Ctx γ) (e:LpE γ):Prop:=∀ fn,lk e.f C.fl=some fn→∀ Y YK rl k,abY Y YK→sH (ndC C.env (C.an e.f) (C.cD e.n) (lnd fn e.cur) Y rl k) (e.h YK rl k)
structure Ctx.Ok (C:Ctx γ):Prop where
  okF:∀ p∈C.fl,∀ k,okF (C.env k) (C.an p.1).mv p.2=true
  ls:∀ p∈C.fl,C.nds p.1 p.2=(C.nds p.1 p.2).map fun q=>lnd p.2 q.key
  yd:∀ e∈C.yd,abX e.T
theorem Ctx.Ok.ahg {C:Ctx γ} (h:C.Ok) {n f:Nat} {fn:Func} (hf:lk f C.fl=some fn) {q:Nd} (hq:q∈oh fn) (hl:∀ e∈C.lp,e.n=n→e.f=f→e.cur=q.key→gu C e):aeZ C.Ek C.fns (C.A.at n f) (C.cD n) q:=by
  unfold aeZ;cases hh:(C.A.at n f).lp q.key with
  | none=>trivial
  | some h0 =>
    obtain ⟨e,h1,rfl,rfl,h4,rfl⟩:=aaW hh;have hin:q∈C.nds e.f fn:=List.mem_filter.2 ⟨hq,List.any_eq_true.2 ⟨e,h1,by simp [h4]⟩⟩;have hls:=h.ls _ (kC hf);simp only at hls;have hq2:q=lnd fn q.key:=by
      obtain ⟨i,hi⟩:=List.getElem?_of_mem hin;have h5:((C.nds e.f fn).map fun q=>lnd fn q.key)[i]? = some q:=by rw [← hls];exact hi
      rw [List.getElem?_map,hi] at h5;exact (Option.some.inj h5).symm
    have:=hl e h1 rfl rfl h4 fn hf;rw [h4,← hq2] at this;exact this
theorem Ctx.Ok.ahh {C:Ctx γ} (h:C.Ok) {n:Nat} (hl:∀ e∈C.lp,e.n=n→gu C e) {f:FuncId} {fn:Func} (hf:C.fns f=some fn):afn C.Ek C.fns (C.A.at n f) (qM C.env C.fns C.A.an n) fn∧∀ l T,C.A.yd n f l=some T→abX T:=by
  refine ⟨fun c hc=>⟨fun k => ?_,wI c 0 (fun p hp => ?_)⟩,fun l T hT => ?_⟩
  · have:=h.okF _ (kC hf) k
    unfold M.okF at this;simp only [hc] at this;exact this
  · exact h.ahg hf (by unfold oh;rw [hc];exact hp) (fun e he hn _ _=>hl e he hn)
  · obtain ⟨e,h1,rfl⟩:=wJ hT
    exact h.yd e h1
def af4:List (PS × (HdK γ→Nat→(dQ→St→Option γ)→List Lf→Option γ))→HdK γ→Nat→St→(dQ→St→Option γ)→Option γ
  | [],_,_,_,_=>none
  | (p,g) :: r,YK,k,σ,K=>match p.rd σ with
    | some ls=>g YK k K ls
    | none=>af4 r YK k σ K
theorem xZ {YK:HdK γ} {k:Nat} {σ:St} {K:dQ→St→Option γ} {v:γ}:∀ {l:List (PS × (HdK γ→Nat→(dQ→St→Option γ)→List Lf→Option γ))},af4 l YK k σ K=some v→∃ q∈l,∃ ls,q.1.mk' ls=σ∧q.2 YK k K ls=some v
  | [],h=>by cases h
  | (p,g) :: r,h=>by
    unfold af4 at h;split at h
    · rename_i ls hls
      exact ⟨(p,g),List.mem_cons_self,ls,PS.rd_mk hls,h⟩
    · obtain ⟨q,h1,h2⟩:=xZ h
      exact ⟨q,List.mem_cons_of_mem _ h1,h2⟩
def rlB:Option (Option Nat)→Option Nat→Bool
  | none,_=>true
  | some none,none=>true
  | some (some a),some b=>Nat.beq a b
  | _,_=>false
def agj (R:Option (Option Nat)) (l:List (PS × (HdK γ→Nat→(dQ→St→Option γ)→List Lf→Option γ))):LpK γ:=fun YK rl k σ K=>match rlB R rl with
  | true=>af4 l YK k σ K
  | false=>none
abbrev iD (l:List (PS × (HdK γ→Nat→(dQ→St→Option γ)→List Lf→Option γ))):LpK γ:=agj none l
def rkB (n f:Nat) (ins:List Nat) (e:LpE γ):Bool:=Nat.blt e.n n || (Nat.beq e.n n&&(Nat.beq e.f f&&xS e.cur ins))
theorem Ctx.Ok.lpQ {C:Ctx γ} (h:C.Ok) {R:Option (Option Nat)} {n f cur:Nat} {fn:Func} {l:List (PS × (HdK γ→Nat→(dQ→St→Option γ)→List Lf→Option γ))} (ins:List Nat) (hf:lk f C.fl=some fn)
    (hn:((kZ (lnd fn cur).c (lnd fn cur).cur).all fun p => !C.has f p.key || xS p.key ins)=true) (hin:(oh fn).any (fun p=>Nat.beq p.key cur)=true) (hl:∀ e∈C.lp,rkB n f ins e=true→gu C e)
    (he:∀ q∈l,∀ YK rl k ls K v,rlB R rl=true→q.2 YK k K ls=some v→C.lK n f cur fn YK rl (q.1.mk' ls).bx.length k (q.1.mk' ls) K=some v):gu C ⟨n,f,cur,agj R l⟩:=by
  intro fn' hf' Y YK rl k hY σ K v hv;simp only at hf' hv;rw [hf] at hf';cases hf';unfold agj at hv;split at hv
  case h_2=>cases hv
  rename_i hR
  obtain ⟨q,h1,ls,rfl,h2⟩:=xZ hv;have h3:=he q h1 YK rl k ls K v hR h2;have hlow:∀ m,m<n→∀ f fn,C.fns f=some fn→afn C.Ek C.fns (C.A.at m f) (qM C.env C.fns C.A.an m) fn∧∀ l T,C.A.yd m f l=some T→abX T:=fun m hm f fn hf=>h.ahh (fun e he hn=>hl e he (by
    subst hn;unfold rkB;rw [Bool.or_eq_true];exact .inl (Nat.ble_eq_true_of_le hm))) hf
  have hC:sI (C.cD n) (C.cK n f):=qp n _ (fun l T hT=>by
    obtain ⟨e,h1,rfl⟩:=wJ hT;exact h.yd e h1) hlow
  have hmem:lnd fn cur∈oh fn:=by
    obtain ⟨p,hp,hb⟩:=List.any_eq_true.1 hin;unfold lnd;cases hf:(oh fn).find? fun p=>Nat.beq p.key cur with
    | none=>exact ((List.find?_eq_none.1 hf) p hp hb).elim
    | some q=>exact List.mem_of_find?_eq_some hf
  obtain ⟨q0,hq0⟩:∃ q0,lnd fn cur=q0:=⟨_,rfl⟩;have hok:∀ k,okC ((C.Ek k).env C.fns) (C.A.at n f).an.mv q0.c=true:=fun k=>by
    have h4:=h.okF _ (kC hf) k;unfold M.okF at h4;cases hc:fn.body with
    | none=>unfold oh at hmem;rw [hc] at hmem;cases hmem
    | some c =>
      simp only [hc] at h4;unfold oh at hmem;rw [hc] at hmem;rw [← hq0];exact aaV c 0 h4 _ hmem
  have aa:∀ p∈kZ q0.c q0.cur,aeZ C.Ek C.fns (C.A.at n f) (C.cD n) p:=fun p hp=>by
    have hpm:p∈oh fn:=by
      unfold oh at hmem ⊢;cases hc:fn.body with
      | none=>rw [hc] at hmem;cases hmem
      | some c=>rw [hc] at hmem;exact acS c 0 _ hmem p (by rw [hq0];exact hp)
    refine h.ahg hf hpm (fun e he g1 g2 g3=>hl e he ?_);have hb:=List.all_eq_true.1 hn p (by rw [hq0];exact hp);have hh:C.has f p.key=true:=List.any_eq_true.2 ⟨e,he,by simp [g2,g3]⟩;rw [hh] at hb;unfold rkB;rw [Bool.or_eq_true,g1,g2,g3];exact .inr (by simpa using hb)
  unfold Ctx.lK Ctx.nK at h3;show Option.bind (ndC C.env (C.an f) (C.cD n) (lnd fn cur) Y rl k _) _=_;unfold ndC;rw [hq0] at h3 ⊢;cases hj:q0.j with
  | true =>
    simp only [hj] at h3 ⊢;exact xX (sK (A:=C.A.at n f) hC q0.c q0.cur hok (wI _ _ aa) Y YK rl k hY _ _ v h3)
  | false =>
    simp only [hj] at h3 ⊢;exact sJ (fun k=>sK (A:=C.A.at n f) hC q0.c q0.cur hok (wI _ _ aa) Y YK rl k hY) k _ K v h3
theorem Ctx.Ok.lpE {C:Ctx γ} (h:C.Ok) {n f cur:Nat} {fn:Func} {l:List (PS × (HdK γ→Nat→(dQ→St→Option γ)→List Lf→Option γ))} (ins:List Nat) (hf:lk f C.fl=some fn)
    (hn:((kZ (lnd fn cur).c (lnd fn cur).cur).all fun p => !C.has f p.key || xS p.key ins)=true) (hin:(oh fn).any (fun p=>Nat.beq p.key cur)=true) (hl:∀ e∈C.lp,rkB n f ins e=true→gu C e)
    (he:∀ q∈l,∀ YK rl k ls K v,q.2 YK k K ls=some v→C.lK n f cur fn YK rl (q.1.mk' ls).bx.length k (q.1.mk' ls) K=some v):gu C ⟨n,f,cur,iD l⟩:=h.lpQ ins hf hn hin hl fun q hq YK rl k ls K v _=>he q hq YK rl k ls K v
theorem acT {P:Program} {rs:List RT} {C:Ctx (sM rs)} (h:C.Ok) {n f:Nat} {fn:Func} {ts:List Ty} {F:mE ts→Option (sM rs)}
    (hm:P.follows .mixedOrders=true) (hT:∀ k,lX P (C.Ek k).T) (hN:∀ k f,(C.Ek k).nw f=true→uQ P f) (hM:∀ k f m,(C.Ek k).mt f=some m→aeU P f m) (hS:∀ k f m,(C.Ek k).sm f=some m→iV P f m.s) (hF:∀ p∈C.fl,P.funcs[p.1]? = some p.2∧(p.2.name == "runtime.NumGoroutine")=false) (hl:∀ e∈C.lp,gu C e)
    (aa:lk f C.fl=some fn) (hb:fn.body.isSome=true)
    (hw:∀ (a:mE ts) (x:sM rs),F a=some x→∃ k,C.bK n f fn k (jD ts a) (K0 rs)=some x):iV P f (jd ts rs F).s :=
  aeo (A:=C.A) (n:=n) (Ek:=C.Ek) (fns:=C.fns) hm hT (fun k=>acR (hN k) (hM k) (hS k)) (fun f fn hf=>hF _ (kC hf)) (fun m _ f fn hf=>h.ahh (fun e he _=>hl e he) hf) aa hb hw
end
end
end Go.Proofs.YtcomnjodjijcmaaGreat.M
namespace Go.Proofs.YtcomnjodjijcmaaGreat.M
noncomputable section
set_option linter.unusedVariables false
set_option linter.unusedSimpArgs false
open Go.RowKit Go.Proofs.YtcomnjodjijcmaaGreatW.dz Go.Proofs.YtcomnjodjijcmaaGreatW.dX
structure TbL where
  sh:List (Nat × Bool × Nat)
  zc:List (Nat × List Cell)
  fo:List (Nat × List Nat)
  el:List (Nat × TypeId × Ty × Nat)
  ik:List (Nat × IntKind)
  bl:List Nat
  st:List (Nat × List (Nat × Nat × TypeId))
  e2:List Nat
  mp:List (Nat × TypeId × TypeId)
def TbL.tb (L:TbL):Tb where
  sh t:=lk t L.sh
  zc t:=lk t L.zc
  fo t f:=(lk t L.fo).bind fun l=>l[f]?
  el t:=lk t L.el
  ik t:=lk t L.ik
  bl t:=xS t L.bl
  st t:=lk t L.st
  e2 t:=xS t L.e2
  mp t:=lk t L.mp
def zM:Cell→Value→Bool
  | .v (.int k n),.int k' n'=>decide (k=k')&&decide (n=n')
  | .v (.bool b),.bool b'=>b==b'
  | .v .nilFunc,.nilFunc=>true
  | .ow _ _ [],.slice none 0 0=>true
  | _,_=>false
def zMs:List Cell→List Value→Bool
  | [],[]=>true
  | c :: cs,v :: vs=>zM c v&&zMs cs vs
  | _,_=>false
theorem agk {c:Cell} {v:Value} (h:zM c v=true):(∀ nb g W ℓ,CR nb g W ℓ c v)∧v.oneCell'=true:=by
  unfold zM at h;split at h
  · simp at h
    obtain ⟨rfl,rfl⟩:=h;exact ⟨fun _ _ _ _=>⟨rfl,rfl⟩,rfl⟩
  · simp at h
    subst h;exact ⟨fun _ _ _ _=>⟨rfl,rfl⟩,rfl⟩
  · exact ⟨fun _ _ _ _=>⟨rfl,rfl⟩,rfl⟩
  · refine ⟨fun nb g W ℓ=>⟨⟨none,0,rfl,Nat.le_refl _,fun i x hx=>by simp at hx⟩,⟨[],by simp,.inl ⟨rfl,rfl⟩⟩,fun b hb=>by cases hb⟩,rfl⟩
  · cases h
theorem adw:∀ {cs:List Cell} {vs:List Value},zMs cs vs=true→(∀ nb g W loc,CsR nb g W loc cs vs)∧∀ v∈vs,v.oneCell'=true
  | [],[],_=>⟨fun _ _ _ _=>⟨rfl,fun k c v hc=>by simp at hc⟩,fun v hv=>by cases hv⟩
  | [],_ :: _,h=>by cases h
  | _ :: _,[],h=>by cases h
  | c :: cs,v :: vs,h=>by
    simp only [zMs,Bool.and_eq_true] at h;obtain ⟨h1,h2⟩:=agk h.1;obtain ⟨h3,h4⟩:=adw h.2;refine ⟨fun nb g W loc=>⟨by simp [(h3 nb g W loc).1],fun k c' v' hc hv => ?_⟩,fun u hu=>(List.mem_cons.1 hu).elim (fun e=>by rw [e];exact h2) (h4 u)⟩;cases k with
    | zero=>simp at hc hv;subst hc;subst hv;exact h1 _ _ _ _
    | succ k=>exact (h3 nb g W (fun k=>loc (k+1))).2 k c' v' (by simpa using hc) (by simpa using hv)
section
variable (P:Program)
def ahi (p:Nat × Bool × Nat):Bool:=(match P.underlying p.1 with | some d=>d.isRow==p.2.1 | none=>false)&&((P.info? p.1).map (·.size)==some p.2.2)
def ahj (p:Nat × List Cell):Bool:=match (P.info? p.1).map (·.zero) with | some (some z)=>zMs p.2 z.cells.toList | _=>false
def ahk (p:Nat × List Nat):Bool:=match P.underlying p.1 with
  | some (.struct fs)=>(List.range p.2.length).all fun f=>match fs[f]? with
    | some fd=>p.2[f]? == some fd.offset&&(match P.info? fd.type with | some i=>i.size != 0 | none=>false)
    | none=>false
  | _=>false
def ahl (p:Nat × TypeId × Ty × Nat):Bool:=(match P.underlying p.1 with | some (.slice e)=>e==p.2.1 | _=>false)&&match P.info? p.2.1 with
  | some i=>(match i.zero with | some z=>z.cells.size==p.2.2.1.sz | none=>false)&&i.size==p.2.2.1.sz&&i.bytes==p.2.2.2&&decide (0<p.2.2.2)
  | none=>false
def ahm (p:Nat × IntKind):Bool:=match P.underlying p.1 with | some (.int k)=>decide (k=p.2) | _=>false
def ahn (t:Nat):Bool:=match P.underlying t with | some .bool=>true | _=>false
def aho (p:Nat × List (Nat × Nat × TypeId)):Bool:=match P.underlying p.1 with
  | some (.struct fs)=>fs.toList.map (fun f=>(f.offset,(P.info? f.type).map (·.size)))==p.2.map (fun q=>(q.1,some q.2.1))
  | _=>false
def ahp (p:Nat × TypeId × TypeId):Bool:=match P.underlying p.1,P.underlying p.2.1,(P.info? p.2.2).map TypeInfo.zero with
  | some (TypeDesc.map a b),some (TypeDesc.int IntKind.i64),some (some (Value.int IntKind.i64 n))=>a==p.2.1&&(b==p.2.2&&decide (n=0))
  | _,_,_=>false
theorem adx:∀ (fs:List Field) (ps:List (Nat × Nat × TypeId)) (W:World),fs.map (fun f=>(f.offset,(P.info? f.type).map (·.size)))=ps.map (fun q=>(q.1,some q.2.1))→(fs.mapM fun f=>(do pure (f.offset,← sizeOf f.type):Sem (Nat × Nat))).run P W=.ok (ps.map fun p=>(p.1,p.2.1)) W
  | [],[],W,_=>by simp
  | [],_ :: _,W,h=>by cases h
  | _ :: _,[],W,h=>by cases h
  | f :: fs,p :: ps,W,h=>by
    simp only [List.map_cons,List.cons.injEq,Prod.mk.injEq] at h;obtain ⟨⟨h1,h2⟩,h3⟩:=h;have ih:=adx fs ps W h3;obtain ⟨i,hi,hi2⟩:=Option.map_eq_some_iff.mp h2;have hsz:(sizeOf f.type).run P W=.ok p.2.1 W:=by simp [sizeOf,typeInfo,Sem.run_bind,hi,hi2]
    simp only [List.mapM_cons,Sem.run_bind,hsz,Result.andThen_ok,Sem.run_pure,ih,h1,List.map_cons]
structure TbL.Ok (L:TbL):Prop where
  sh:L.sh.all (ahi P)=true
  zc:L.zc.all (ahj P)=true
  fo:L.fo.all (ahk P)=true
  el:L.el.all (ahl P)=true
  ik:L.ik.all (ahm P)=true
  bl:L.bl.all (ahn P)=true
  st:L.st.all (aho P)=true
  mp:L.mp.all (ahp P)=true
  e2:∀ t,xS t L.e2=true→∀ (op:BinOp) (x y:Operand) (a0 a1 b0 b1:Int) (W:World),(eqGuard op t x y (.agg #[.int .i64 a0,.int .i64 a1]) (.agg #[.int .i64 b0,.int .i64 b1])).run P W=.ok () W∧(Op.equal t (.agg #[.int .i64 a0,.int .i64 a1]) (.agg #[.int .i64 b0,.int .i64 b1])).run P W=.ok (a0==b0&&a1==b1) W
theorem oW {i:Nat}:∀ {l:List Nat},xS i l=true→i∈l
  | [],h=>by cases h
  | j :: r,h=>by
    unfold xS at h;split at h
    · rename_i e;rw [Nat.eq_of_beq_eq_true e];exact List.mem_cons_self
    · exact List.mem_cons_of_mem _ (oW h)
variable {P}
theorem TbL.ok {L:TbL} (h:L.Ok P):lX P L.tb where
  sh t ag n ht:=by
    have:=List.all_eq_true.1 h.sh _ (kC ht);simp only [ahi,Bool.and_eq_true] at this;obtain ⟨h1,h2⟩:=this;refine ⟨?_,by simpa using h2⟩;split at h1
    · rename_i d hd;exact ⟨d,hd,by simpa using h1⟩
    · cases h1
  zc t cs ht:=by
    have:=List.all_eq_true.1 h.zc _ (kC ht);simp only [ahj] at this;split at this
    · rename_i z hz;obtain ⟨h1,h2⟩:=adw this;exact ⟨z,hz,h1,h2⟩
    · cases this
  fo t f off ht:=by
    obtain ⟨l,h1,h2⟩:=Option.bind_eq_some_iff.mp ht;have:=List.all_eq_true.1 h.fo _ (kC h1);simp only [ahk] at this;split at this
    · rename_i fs hu
      have h3:=List.all_eq_true.1 this f (List.mem_range.2 (List.getElem?_eq_some_iff.1 h2).1);split at h3
      · rename_i fd aa
        simp only [Bool.and_eq_true] at h3;obtain ⟨h4,h5⟩:=h3;split at h5
        · rename_i i hi
          rw [h2] at h4;exact ⟨fs,fd,i,hu,aa,by simpa using (Eq.symm (by simpa using h4:off=fd.offset)),hi,by simpa using h5⟩
        · cases h5
      · cases h3
    · cases this
  el t e k by' ht:=by
    have:=List.all_eq_true.1 h.el _ (kC ht);simp only [ahl,Bool.and_eq_true] at this;obtain ⟨h1,h2⟩:=this;split at h1
    · rename_i e' hu
      have he:e'=e:=by simpa using h1
      subst he;split at h2
      · rename_i i hi
        simp only [Bool.and_eq_true] at h2;obtain ⟨⟨⟨h3,h4⟩,h5⟩,h6⟩:=h2;split at h3
        · rename_i z hz
          exact ⟨hu,i,z,hi,hz,by simpa using h4,by simpa using h5,by simpa using h3,by simpa using h6⟩
        · cases h3
      · cases h2
    · cases h1
  ik t k ht:=by
    have:=List.all_eq_true.1 h.ik _ (kC ht);simp only [ahm] at this;split at this
    · rename_i k' hu
      have e:k'=k:=by simpa using this
      rw [← e];exact hu
    · cases this
  bl t ht:=by
    have:=List.all_eq_true.1 h.bl _ (oW ht);simp only [ahn] at this;split at this
    · assumption
    · cases this
  st t ps ht:=by
    have:=List.all_eq_true.1 h.st _ (kC ht);simp only [aho] at this;split at this
    · rename_i fs hu
      refine ⟨fs,hu,fun W => ?_⟩;have:=adx P fs.toList ps W (by simpa using this);rw [Array.mapM_eq_mapM_toList];simp only [map_eq_pure_bind,Sem.run_bind,this,Result.andThen_ok,Sem.run_pure]
    · cases this
  e2 t ht:=h.e2 t ht
  mp t kt et ht:=by
    have:=List.all_eq_true.1 h.mp _ (kC ht);simp only [ahp] at this;split at this
    · rename_i a b n q1 q2 q3
      simp only [Bool.and_eq_true,beq_iff_eq,decide_eq_true_eq] at this;obtain ⟨rfl,rfl,rfl⟩:=this;exact ⟨q1,q2,_,q3,rfl⟩
    · cases this
theorem ahU {l:List Nat} (h:∀ f∈l,uQ P f):∀ (k:Nat) (f:FuncId),xS f l=true→uQ P f:=fun _ f hf=>h f (oW hf)
theorem aep {l:List (Nat × Sm)} (h:∀ p∈l,iV P p.1 p.2.s):∀ f m,lk f l=some m→iV P f m.s:=fun f m hm=>h _ (kC hm)
end
theorem all_nil {α:Type _} {q:α→Prop}:∀ p∈([]:List α),q p:=fun p hp=>by cases hp
theorem all_cons {α:Type _} {q:α→Prop} {x:α} {l:List α} (h:q x) (hl:∀ p∈l,q p):∀ p∈x :: l,q p:=fun p hp=>(List.mem_cons.1 hp).elim (fun e=>by rw [e];exact h) (hl p)
@[reducible] def gI (xs:List Int) (j:Int):Int:=xs.getD j.toNat 0
@[reducible] def gB (xs:List Bool) (j:Int):Bool:=xs.getD j.toNat false
@[reducible] def gS (xs:List P.S42) (j:Int):P.S42:=xs.getD j.toNat ⟨0,0⟩
@[reducible] def gP (xs:List P2) (j:Int):P2:=xs.getD j.toNat ⟨[],[]⟩
@[reducible] def gG (xs:List P.S44) (j:Int):P.S44:=xs.getD j.toNat ⟨0,[]⟩
@[reducible] def gM (xs:List (List P.S44)) (j:Int):List P.S44:=xs.getD j.toNat []
@[reducible] def gL (xs:List (List P.S42)) (j:Int):List P.S42:=xs.getD j.toNat []
@[reducible] def nO:PV:=.one .no
@[reducible] def nOs (n:Nat):List PV:=List.replicate n nO
end
end Go.Proofs.YtcomnjodjijcmaaGreat.M
namespace Go.Proofs.YtcomnjodjijcmaaGreat.P
open Go.RowKit Go.Proofs.YtcomnjodjijcmaaGreatW.dz Go.Proofs.YtcomnjodjijcmaaGreatW.dX Go.Proofs.YtcomnjodjijcmaaGreatW.eD
attribute [local go_sem] rV rW vP vQ ug uh wX wY   -- for this text's walks alone
set_option linter.unusedVariables false
set_option linter.unusedSimpArgs false
theorem agl (d:Nat) (w:World) (x0 y0:Int) (x1 y1:Int) :
 (Op.equalIn (d+2) 42 (.agg #[.int .i64 x0,.int .i64 x1]) (.agg #[.int .i64 y0,.int .i64 y1])).run Tryz.prog w=.ok (x0==y0&&(x1==y1)) w:=by
 refine ae6 Tryz.underlying42 (by kernel_rfl) ?_;refine ab4 (by rfl) (by go_simp;rfl) (by go_simp;rfl) (by go_simp) ?_;exact ab3 (by rfl) (by go_simp;rfl) (by go_simp;rfl) (by go_simp)
end Go.Proofs.YtcomnjodjijcmaaGreat.P
namespace Go.Proofs.YtcomnjodjijcmaaGreat.M
open Go.RowKit Go.Proofs.YtcomnjodjijcmaaGreatW.dz Go.Proofs.YtcomnjodjijcmaaGreatW.dX
def tL:TbL where
  sh:=[(1,false,1),(2,false,1),(3,false,1),(4,false,1),(5,false,1),(6,false,1),(7,true,4),(8,true,4),(9,false,1),(10,false,1),(11,false,1),(12,false,1),(13,true,2),(14,true,2),(15,false,1),(16,false,1),(17,false,1),(18,true,1),(19,true,1),(21,false,1),(22,false,1),(23,false,1),(24,true,4),(25,true,4),(26,false,1),(27,false,1),(28,false,1),(29,false,1),(31,false,1),(32,false,1),(34,false,1),(35,false,1),(36,false,1),(37,false,1),(39,false,1),(40,false,1),(41,true,2),(42,true,2),(43,true,2),(44,true,2),(45,false,1),(46,false,1),(48,false,1),(49,false,1),(50,false,1),(51,false,1),(52,false,1),(54,false,1),(55,false,1),(56,false,1),(57,false,1),(58,false,1),(59,false,1),(60,false,1),(61,false,1),(63,false,1),(65,false,1),(66,false,1),(68,false,1),(69,false,1),(70,false,1),(71,false,1),(72,false,1),(74,false,1),(75,false,1),(76,false,1),(77,false,1),(78,false,1),(79,false,1),(80,false,1),(81,false,1),(82,false,1),(83,false,1),(84,false,1),(85,false,1),(86,false,1),(87,false,1),(88,false,1),(89,true,2),(90,true,2),(91,false,1),(92,false,1),(93,false,1),(94,false,1),(95,false,1),(96,false,1),(98,false,1),(99,false,1),(101,false,1),(102,false,1),(103,false,1),(105,false,1),(106,false,1),(108,false,1),(109,false,1),(110,false,1),(111,false,1),(112,false,1),(113,false,1),(114,false,1),(115,true,3),(116,true,3),(117,false,1),(118,false,1),(119,false,1),(120,false,1),(121,false,1),(122,false,1),(123,false,1),(124,false,1),(125,false,1),(126,false,1),(127,false,1),(128,false,1),(129,false,1),(130,false,1),(131,false,1),(132,false,1),(133,false,1),(134,false,1),(135,false,1),(136,false,1),(137,false,1),(138,false,1),(140,false,1),(141,false,1),(142,false,1),(143,false,1),(144,false,1),(145,false,1),(147,false,1),(148,false,1),(149,false,1),(150,false,1),(151,false,1),(152,false,1),(153,false,1),(155,false,1),(156,false,1),(157,false,1),(158,false,1),(159,false,1),(160,false,1),(161,false,1),(162,false,1),(163,false,1),(164,false,1),(165,false,1),(166,false,1),(167,false,1),(168,false,1),(169,false,1),(170,false,1),(171,false,1),(172,true,4),(173,true,4),(175,true,0),(176,true,0),(177,false,1),(178,false,1),(179,false,1),(180,false,1),(181,false,1),(182,false,1),(183,false,1),(184,true,11),(185,true,11)]
  zc:=[(1,[.v .nilFunc]),(2,[.v (.int .i64 0)]),(3,[.v (.int .i64 0)]),(4,[.v (.bool false)]),(5,[.v (.int .u8 0)]),(6,[.v (.int .u8 0)]),(7,[.v (.int .i64 0),.v (.int .i64 0),.v (.bool false),.v (.int .u8 0)]),(8,[.v (.int .i64 0),.v (.int .i64 0),.v (.bool false),.v (.int .u8 0)]),(12,[.v (.int .u64 0)]),(21,[.v (.int .i32 0)]),(22,[.ow 37 (.sl 42 .sp) []]),(23,[.ow 44 .gr []]),(24,[.v (.int .i64 0),.v (.int .i64 0),.ow 37 (.sl 42 .sp) [],.ow 44 .gr []]),(25,[.v (.int .i64 0),.v (.int .i64 0),.ow 37 (.sl 42 .sp) [],.ow 44 .gr []]),(26,[.v .nilFunc]),(27,[.v .nilFunc]),(28,[.v .nilFunc]),(29,[.v (.int .i64 0)]),(31,[.v .nilFunc]),(32,[.v .nilFunc]),(34,[.v .nilFunc]),(35,[.v .nilFunc]),(36,[.v (.int .i16 0)]),(37,[.ow 42 .sp []]),(39,[.v .nilFunc]),(40,[.v .nilFunc]),(41,[.v (.int .i64 0),.v (.int .i64 0)]),(42,[.v (.int .i64 0),.v (.int .i64 0)]),(43,[.v (.int .i64 0),.ow 42 .sp []]),(44,[.v (.int .i64 0),.ow 42 .sp []]),(45,[.v .nilFunc]),(46,[.v (.int .i8 0)]),(48,[.v .nilFunc]),(49,[.v .nilFunc]),(50,[.ow 3 (.int .i64) []]),(51,[.v .nilFunc]),(52,[.v .nilFunc]),(54,[.v .nilFunc]),(55,[.v .nilFunc]),(56,[.v .nilFunc]),(57,[.v .nilFunc]),(58,[.v .nilFunc]),(59,[.v .nilFunc]),(60,[.v .nilFunc]),(61,[.ow 90 .pr []]),(63,[.v .nilFunc]),(65,[.v .nilFunc]),(66,[.v .nilFunc]),(68,[.v .nilFunc]),(69,[.v .nilFunc]),(70,[.v .nilFunc]),(71,[.v .nilFunc]),(72,[.v .nilFunc]),(74,[.v .nilFunc]),(75,[.v .nilFunc]),(76,[.v .nilFunc]),(77,[.v .nilFunc]),(78,[.v .nilFunc]),(79,[.v .nilFunc]),(80,[.v .nilFunc]),(81,[.v .nilFunc]),(82,[.v .nilFunc]),(83,[.v .nilFunc]),(84,[.v .nilFunc]),(85,[.v .nilFunc]),(86,[.v .nilFunc]),(87,[.v .nilFunc]),(88,[.v .nilFunc]),(89,[.ow 42 .sp [],.ow 42 .sp []]),(90,[.ow 42 .sp [],.ow 42 .sp []]),(91,[.v .nilFunc]),(92,[.v .nilFunc]),(93,[.v .nilFunc]),(94,[.v .nilFunc]),(95,[.v .nilFunc]),(96,[.v .nilFunc]),(98,[.v .nilFunc]),(99,[.v .nilFunc]),(101,[.v .nilFunc]),(102,[.v .nilFunc]),(103,[.v .nilFunc]),(105,[.v .nilFunc]),(106,[.v .nilFunc]),(108,[.v .nilFunc]),(109,[.v .nilFunc]),(110,[.v .nilFunc]),(111,[.v .nilFunc]),(112,[.v .nilFunc]),(113,[.v .nilFunc]),(114,[.v .nilFunc]),(115,[.v (.int .i64 0),.v (.bool false),.v (.bool false)]),(116,[.v (.int .i64 0),.v (.bool false),.v (.bool false)]),(117,[.v .nilFunc]),(118,[.v .nilFunc]),(119,[.v .nilFunc]),(120,[.v .nilFunc]),(121,[.v .nilFunc]),(122,[.v .nilFunc]),(123,[.v .nilFunc]),(124,[.v .nilFunc]),(126,[.ow 23 (.sl 44 .gr) []]),(127,[.v .nilFunc]),(128,[.v .nilFunc]),(129,[.v .nilFunc]),(130,[.v (.int .u64 0)]),(131,[.v .nilFunc]),(132,[.v .nilFunc]),(133,[.v .nilFunc]),(134,[.v .nilFunc]),(135,[.v .nilFunc]),(136,[.v .nilFunc]),(137,[.v .nilFunc]),(138,[.v (.int .u64 0)]),(140,[.v .nilFunc]),(141,[.v .nilFunc]),(142,[.v .nilFunc]),(143,[.v .nilFunc]),(144,[.v .nilFunc]),(145,[.v .nilFunc]),(147,[.v .nilFunc]),(148,[.v .nilFunc]),(149,[.v .nilFunc]),(150,[.v .nilFunc]),(151,[.v .nilFunc]),(152,[.v .nilFunc]),(153,[.v (.int .i64 0)]),(155,[.v .nilFunc]),(156,[.v .nilFunc]),(157,[.v .nilFunc]),(158,[.v .nilFunc]),(159,[.v .nilFunc]),(160,[.v .nilFunc]),(161,[.v (.int .u32 0)]),(162,[.v .nilFunc]),(163,[.v (.int .u64 0)]),(164,[.v .nilFunc]),(165,[.v .nilFunc]),(166,[.v .nilFunc]),(168,[.v .nilFunc]),(170,[.v .nilFunc]),(171,[.v .nilFunc]),(177,[.v .nilFunc]),(178,[.v (.int .u8 0)]),(179,[.v (.int .u8 0)]),(180,[.v .nilFunc]),(182,[.v (.int .i32 0)]),(183,[.v (.int .i32 0)])]
  fo:=[(7,[0,1,2,3]),(8,[0,1,2,3]),(13,[0,1]),(14,[0,1]),(18,[0]),(19,[0]),(24,[0,1,2,3]),(25,[0,1,2,3]),(41,[0,1]),(42,[0,1]),(43,[0,1]),(44,[0,1]),(89,[0,1]),(90,[0,1]),(115,[0,1,2]),(116,[0,1,2]),(172,[0,1,2,3]),(173,[0,1,2,3]),(184,[0,1,2,3,4,5,6,7,8,9,10]),(185,[0,1,2,3,4,5,6,7,8,9,10])]
  el:=[(22,37,(.sl 42 .sp),24),(23,44,.gr,32),(37,42,.sp,16),(50,3,(.int .i64),8),(61,90,.pr,48),(126,23,(.sl 44 .gr),24)]
  ik:=[(2,.i64),(3,.i64),(5,.u8),(6,.u8),(12,.u64),(21,.i32),(29,.i64),(36,.i16),(46,.i8),(130,.u64),(138,.u64),(153,.i64),(161,.u32),(163,.u64),(178,.u8),(179,.u8),(182,.i32),(183,.i32)]
  bl:=[4]
  st:=[(7,[(0,1,2),(1,1,3),(2,1,4),(3,1,6)]),(8,[(0,1,2),(1,1,3),(2,1,4),(3,1,6)]),(13,[(0,1,9),(1,1,12)]),(14,[(0,1,9),(1,1,12)]),(18,[(0,1,17)]),(19,[(0,1,17)]),(24,[(0,1,3),(1,1,3),(2,1,22),(3,1,23)]),(25,[(0,1,3),(1,1,3),(2,1,22),(3,1,23)]),(41,[(0,1,3),(1,1,3)]),(42,[(0,1,3),(1,1,3)]),(43,[(0,1,3),(1,1,37)]),(44,[(0,1,3),(1,1,37)]),(89,[(0,1,37),(1,1,37)]),(90,[(0,1,37),(1,1,37)]),(115,[(0,1,3),(1,1,4),(2,1,4)]),(116,[(0,1,3),(1,1,4),(2,1,4)]),(172,[(0,1,17),(1,1,17),(2,1,17),(3,1,9)]),(173,[(0,1,17),(1,1,17),(2,1,17),(3,1,9)]),(184,[(0,1,12),(1,1,12),(2,1,161),(3,1,178),(4,1,5),(5,1,5),(6,1,179),(7,1,180),(8,1,181),(9,1,182),(10,1,183)]),(185,[(0,1,12),(1,1,12),(2,1,161),(3,1,178),(4,1,5),(5,1,5),(6,1,179),(7,1,180),(8,1,181),(9,1,182),(10,1,183)])]
  e2:=[42]
  mp:=[]
theorem mixed:Tryz.prog.follows .mixedOrders=true:=by kernel_rfl
theorem agm:tL.Ok Tryz.prog where
  sh:=by kernel_rfl
  zc:=by kernel_rfl
  fo:=by kernel_rfl
  el:=by kernel_rfl
  ik:=by kernel_rfl
  bl:=by kernel_rfl
  st:=by kernel_rfl
  mp:=by kernel_rfl
  e2:=fun t ht op x y a0 a1 b0 b1 W=>by
    obtain rfl:t=42:=by
      have:=oW ht;simpa [tL] using this
    refine ⟨?_,P.agl 9998 W a0 b0 a1 b1⟩;have hg:Tryz.prog.eqGuardType Tryz.prog.depth 42=false:=by kernel_rfl
    unfold eqGuard;cases op
    case eql | neq =>
      simp only [Bool.not_true,Bool.false_eq_true,if_false,Sem.run_bind,program,Sem.run,Result.andThen_ok,hg,Bool.not_false,if_true,Sem.run_pure]
    all_goals simp
theorem aft:lX Tryz.prog tL.tb:=TbL.ok agm
end Go.Proofs.YtcomnjodjijcmaaGreat.M
namespace Go.Proofs.YtcomnjodjijcmaaGreat.R
open M Go.RowKit Go.Proofs.YtcomnjodjijcmaaGreatW.dz Go.Proofs.YtcomnjodjijcmaaGreatW.dX Go.Proofs.YtcomnjodjijcmaaGreatW.eD
set_option linter.unusedVariables false
set_option linter.unusedSimpArgs false
theorem wpList_append_run {P:Program} {w:World} {ops:Array Oper} {rest:List Oper} {o:Oper} {a:Act} {Q:Exit→Act→World→Prop} (hgd:o.guard=none) (s x:Operand) (t:TypeId)
    (ho:o.op=.call { callee:=.builtin .append,args:=#[s,x],argTypes:=#[t,t] }) (y1 y2:Value) (hs:a.eval s=y1) (hx:a.eval x=y2)
    (v':Value) (w':World) (hr:(Builtin.append_ #[t,t] o.type #[y1,y2]).run P w=.ok v' w') (h:wpList P ops Q rest (a.put o.dst v') w'):wpList P ops Q (o :: rest) a w :=
  wpList_plain hgd fun _ hK=>by
    unfold Oper.wp execOp;simp only [ho,resolve,invoke,builtin,Sem.run_bind,Sem.run_pure,Result.andThen_ok,List.map_toArray,List.map_cons,List.map_nil,hs,hx,hr];exact hK _ _ h
theorem aer {P:Program} {f:FuncId} {fn:Func} {e:TypeId} {t:Ty} {F:List t.T→Option (List t.T)} (hf:P.funcs[f]? = some fn) (hn:(fn.name == "runtime.NumGoroutine")=false) (hb:fn.body.isSome=true)
    (h:∀ (nb:Nat) (g:Gh) (W:World) (ℓ:M.Loc) (A:Option Addr) (c:Nat) (xs x:List t.T),Wf g W→xs.length≤c→abT (t.R (jW g W)) t.sz (jW g W) A xs→F xs=some x →
      Calls P f #[.slice A xs.length c] W fun e0 W'=>∃ v,e0=.returned v∧∃ g',Wf g' W'∧Evo (fun _=>False) nb g W g' W'∧CR nb g' W' ℓ (.ow e t x) v):iV P f (jd [.sl e t] [.own e t] (fun a=>F a.1)).s:=by
  refine ⟨fn,hf,hn,hb,fun nb g W fr d ys vs r hw hl hy hs => ?_⟩;obtain ⟨o,ho,hr⟩:=Option.bind_eq_some_iff.mp hs;obtain ⟨a,ha,rfl⟩:=Option.map_eq_some_iff.mp ho;obtain ⟨x,hx,rfl⟩:=Option.map_eq_some_iff.mp hr;obtain ⟨g0,hg0⟩:∃ g0:Gh,g0={ ow:=fun _=>none,pr:=g.pr,bx:=g.bx,lr:=g.lr,lv:=g.lv,av:=g.av }:=⟨_,rfl⟩;have hpr:g0.pr=g.pr:=by rw [hg0]
  have how:∀ b,g0.ow b=none:=fun b=>by rw [hg0]
  obtain ⟨q1,q2⟩:=nJ (nb':=nb) (g0:=g0) hpr ha (vs:=vs.toList) (by simpa using hl) (fun i x v h1 h2=>hy i x v h1 (by simpa using h2));obtain ⟨v,hv⟩:∃ v,vs=#[v]:=by
    have:vs.size=1:=by simpa [jD] using q1.symm
    exact ⟨vs[0],by
        ext i h1 h2;· simpa using this
        · simp at h2;subst h2;rfl⟩
  subst hv;obtain ⟨A,c,rfl,hc,hrow⟩:SlR (t.R (jW g0 W)) t.sz (jW g0 W) a.1 v:=q2 0 _ v rfl rfl 0 0;refine (h nb g0 W (M.Loc.tm fr d 0 0) A c a.1 x ⟨by rw [hpr];exact hw.pr,fun b ℓ e=>by rw [how] at e;cases e⟩ hc hrow hx).mono fun e0 W' ⟨v,he,g',k1,k5,k6⟩ => ?_;have hnone:∀ b,b<W.heap.size→g'.ow b=none:=fun b hb=>((k5.far b hb (fun ℓ e=>by rw [how] at e;cases e)).2.1).trans (how b);obtain ⟨c1,c2,c3⟩:CR nb g' W' (M.Loc.tm fr d 0 0) (.ow e t x) v:=k6;refine ⟨v,he,g.mix g' W.heap.size,⟨k1.pr,fun b ℓ hb => ?_⟩,rfl,⟨k5.os,k5.tape,k5.output,k5.size,fun b o hp=>k5.keep b o (by rw [hpr];exact hp),fun b hb _ => ?_,fun l _ hv=>⟨hv,rfl,rfl,rfl⟩⟩,⟨c1,c2,fun b hb=>⟨?_,(c3 b hb).2⟩⟩⟩
  · have hb:(if b<W.heap.size then g.ow b else g'.ow b)=some ℓ:=hb
    split at hb
    · rename_i hlt;exact Nat.lt_of_lt_of_le hlt k5.size
    · exact k1.ow b ℓ hb
  · obtain ⟨f1,f2,f3⟩:=k5.far b hb (fun ℓ e=>by rw [how] at e;cases e)
    exact ⟨f1,if_pos hb,fun o ho=>by rw [← hpr];exact f3 o ho⟩
  · show (if b<W.heap.size then g.ow b else g'.ow b)=_
    split
    · rename_i hlt;have:=(c3 b hb).1;rw [hnone b hlt] at this;cases this
    · exact (c3 b hb).1
theorem tel:tL.tb.el 37=some (42,.sp,16):=by kernel_rfl
def d9.f (k:Nat) (a0:List P.S42):Option (List P.S42):=if a0.length≤8796093022208 then some a0 else none
def d9.m (k:Nat):Sm:=jd [.sl 42 .sp] [.own 42 .sp] (fun a=>d9.f k a.1)
set_option maxRecDepth 100000 in
set_option maxHeartbeats 1000000 in
theorem d9.ok (k:Nat):iV Tryz.prog 36 (d9.m k).s:=by
  refine aer (e:=42) (t:=.sp) (F:=d9.f k) Tryz.func36 (by kernel_rfl) (by kernel_rfl) (fun nb g W ℓ A c xs x hw hc hrow hx => ?_);unfold d9.f at hx;split at hx
  case isFalse=>cases hx
  rename_i hm
  cases hx
  cases A with
  | none =>
    have hn:xs=[]:=by
      cases xs with
      | nil=>rfl
      | cons y r=>obtain ⟨b,o,vs,e1,_⟩:=hrow 0 y rfl;cases e1
    subst hn;have he:=Go.run_eql_slice_nil (P:=Tryz.prog) W 37 42 none 0 c Tryz.underlying37;go_enter Tryz.func36,Tryz.ntmps36;go_wp2;go_ret;exact ⟨_,rfl,g,hw,Evo.refl _ _ _ _,CR.nil⟩
  | some ad =>
    have he:=Go.run_eql_slice_nil (P:=Tryz.prog) W 37 42 (some ad) xs.length c Tryz.underlying37;obtain ⟨g1,hw1,hv1,hc1,hl1⟩:=aas (nb:=nb) hw (e:=42) (k:=.sp) (xs:=[]) (news:=[]) (Nat.zero_le _) rfl (fun i x hx=>by simp at hx) ℓ;obtain ⟨v',W',g',hrun,hw',hv',hc',hl'⟩:=qV (ty:=37) (nb:=nb) (P:=Tryz.prog) (T:=tL.tb) aft hw1 tel (ℓd:=ℓ) (z0:=true) hc1 (ys:=xs) (y:=.slice (some ad) xs.length c) ⟨some ad,c,rfl,hc,hrow.mono (Ty.jr hv1.cp .sp) hv1.cp⟩ (by simpa using hm);have hfin:=Lib.hid (⟨hw',(hv1.weaken (fun ℓ h=>h.elim) (Nat.le_refl _)).trans (hv'.weaken (fun ℓ h=>h.elim) (Nat.le_refl _)) (Nat.le_refl _),hc'⟩:Wf g' W'∧Evo (fun _=>False) nb g W g' W'∧CR nb g' W' ℓ (.ow 42 .sp ([]++xs)) v');have hrun':=Lib.hid hrun;clear hrow hw1 hv1 hc1 hl1 hw' hv' hc' hl' hrun hw hm;go_enter Tryz.func36,Tryz.ntmps36;go_wp2_with (at_builtin;refine wpList_append_run rfl _ _ 37 rfl _ _ rfl rfl v' W' hrun'.out ?_);go_ret;obtain ⟨k1,k2,k3⟩:=hfin.out;exact ⟨_,rfl,g',k1,k2,k3⟩
end Go.Proofs.YtcomnjodjijcmaaGreat.R
namespace Go.Proofs.YtcomnjodjijcmaaGreat.P
set_option linter.unusedVariables false
set_option linter.unusedSimpArgs false
open Go.RowKit Go.Proofs.YtcomnjodjijcmaaGreatW.dz Go.Proofs.YtcomnjodjijcmaaGreatW.dX Go.Proofs.YtcomnjodjijcmaaGreatW.eD
def fq.l0:Nat→Int→Int→Option Int
  | 0,_,_=>none
  | k+1,x0,x1=>if x1=0 then some x0 else fq.l0 k x1 (Int.tmod x0 x1)
def fq.f (k:Nat) (a0 a1:Int):Option Int:=if 0≤a0∧0≤a1 then fq.l0 k a0 a1 else none
theorem fq.ady:∀ k y0 y1,LeO (fq.l0 k y0 y1) (fq.l0 (k+1) y0 y1)
  | 0,_,_=>fun r h=>by simp [fq.l0] at h
  | k+1,y0,y1=>by
    unfold fq.l0;exact LeO.ite (LeO.refl _) (fq.ady k _ _)
theorem fq.mono:∀ a0 a1 k,LeO (fq.f k a0 a1) (fq.f (k+1) a0 a1):=by
  intro a0 a1 k;unfold fq.f;exact LeO.ite (fq.ady k _ _) (LeO.none _)
set_option maxHeartbeats 8000000 in
set_option maxRecDepth 100000 in
theorem fq.calls (k:Nat) (a0 a1:Int) (r:Int) (w:World) (h:fq.f k a0 a1=some r) :
    Calls Tryz.prog 157 #[.int .u64 a0,.int .u64 a1] w fun e w'=>e=.returned (.int .u64 r)∧Below w.heap.size w w':=by
  unfold fq.f at h;by_cases hp:0≤a0∧0≤a1
  case neg=>rw [if_neg hp] at h;cases h
  rw [if_pos hp] at h;have HP:=mY.mk hp;have HH:=mY.mk h;clear h hp;go_enter Tryz.func157,Tryz.ntmps157;go_wp2;refine wp_scope_jumps 0 (fun a' w'=>∃ (kq:Nat) (x0 x1:Int) (u2 u3 u5 u6 u7 u8 u9 aa ab:Value),a'={ tmps:=#[.int .u64 x0,.int .u64 x1,u2,u3,.int .u64 0,u5,u6,u7,u8,u9,aa,ab],defers:=[] }∧mY (fq.l0 kq x0 x1=some r)∧mY (0≤x0∧0≤x1)∧mY (Below w.heap.size w w')) (fun a' _=>(intOf (a'.tmps.getD 1 undef)).toNat) rfl ?_ ?_
  · cases k with
    | zero=>exact absurd HH.out (by simp [fq.l0])
    | succ k1 =>
      have H:=HH.out;simp only [fq.l0] at H;by_cases c:a1=0
      · rw [if_pos c] at H
        have c0:(a1==0)=true:=beq_iff_eq.mpr c;have c1:(a1 != 0)=false:=bne_eq_false_iff_eq.mpr c;obtain rfl:=Option.some.inj H;clear c;go_wp2;go_step3;go_wp2;repeat (go_quiet (fail);try go_wp2)
        simp only [Exit.jump];go_ret;exact ⟨rfl,by repeat (first | exact Below.refl _ _ | apply kg | apply jR | apply kV)⟩
      · rw [if_neg c] at H
        have c0:(a1==0)=false:=beq_eq_false_iff_ne.mpr c;have c1:(a1 != 0)=true:=bne_iff_ne.mpr c;have HA:=mY.mk H;clear H HH;go_wp2;go_step3;go_wp2;repeat (go_quiet (fail);try go_wp2)
        go_step3
        exact ⟨rfl,k1,a1,Int.tmod a0 a1,_,_,_,_,_,_,_,_,_,rfl,HA,⟨HP.out.2,Int.tmod_nonneg _ HP.out.1⟩,⟨by repeat (first | exact Below.refl _ _ | apply kg | apply jR | apply kV)⟩⟩
  · rintro a' w' ⟨kq,x0,x1,u2,u3,u5,u6,u7,u8,u9,aa,ab,rfl,HA,HX,HB⟩
    cases kq with
    | zero=>exact absurd HA.out (by simp [fq.l0])
    | succ k1 =>
      have H:=HA.out;simp only [fq.l0] at H;by_cases c:x1=0
      · rw [if_pos c] at H
        have c0:(x1==0)=true:=beq_iff_eq.mpr c;have c1:(x1 != 0)=false:=bne_eq_false_iff_eq.mpr c;obtain rfl:=Option.some.inj H;clear c HA;go_wp2;repeat (go_quiet (fail);try go_wp2)
        simp only [Exit.jump];go_ret;exact ⟨rfl,by repeat (first | exact HB.out | apply kg | apply jR | apply kV)⟩
      · rw [if_neg c] at H
        have c0:(x1==0)=false:=beq_eq_false_iff_ne.mpr c;have c1:(x1 != 0)=true:=bne_iff_ne.mpr c;have ms:mY ((Int.tmod x0 x1).toNat<x1.toNat):=⟨by
          have h1:=Int.tmod_lt_of_pos x0 (show 0<x1 by have:=HX.out.2;omega);have:=HX.out.2;omega⟩
        have HA:=mY.mk H;clear H;go_wp2;repeat (go_quiet (fail);try go_wp2)
        go_step3
        exact ⟨rfl,⟨k1,x1,Int.tmod x0 x1,_,_,_,_,_,_,_,_,_,rfl,HA,⟨HX.out.2,Int.tmod_nonneg _ HX.out.1⟩,⟨by repeat (first | exact HB.out | apply kg | apply jR | apply kV)⟩⟩,ms.out⟩
end Go.Proofs.YtcomnjodjijcmaaGreat.P
namespace Go.Proofs.YtcomnjodjijcmaaGreat.M
set_option linter.unusedVariables false
open Go.RowKit Go.Proofs.YtcomnjodjijcmaaGreatW.dz Go.Proofs.YtcomnjodjijcmaaGreatW.dX
theorem vv {A:Loc→Prop} {nb:Nat} {g:Gh} {W W':World} (hw:Wf g W) (h:Below W.heap.size W W'):Wf g W'∧Evo A nb g W g W' :=
  ⟨⟨fun b o hp=>Nat.lt_of_lt_of_le (hw.pr b o hp) h.size,fun b ℓ hp=>Nat.lt_of_lt_of_le (hw.ow b ℓ hp) h.size⟩,h.os,h.tape,h.output,h.size,fun b o hp=>⟨hp,fun v hv=>by
    unfold World.cell? at hv ⊢;simp only at hv ⊢;rw [h.block b (hw.pr b o hp)];exact hv⟩,fun b hb _=>⟨h.block b hb,rfl,fun _ h=>h⟩,fun _ _ hl=>⟨hl,rfl,rfl,rfl⟩⟩
end Go.Proofs.YtcomnjodjijcmaaGreat.M
namespace Go.Proofs.YtcomnjodjijcmaaGreat.R
open M Go.RowKit Go.Proofs.YtcomnjodjijcmaaGreatW.dz Go.Proofs.YtcomnjodjijcmaaGreatW.dX Go.Proofs.YtcomnjodjijcmaaGreatW.eD
set_option linter.unusedVariables false
def fq.f (k:Nat) (a0 a1:Int):Option Int:=P.fq.f k a0 a1
noncomputable def fq.m (k:Nat):Sm:=jd [.int .u64,.int .u64] [.pl (.int .u64)] (fun a=>fq.f k a.1 a.2.1)
theorem fq.ok (k:Nat):iV Tryz.prog 157 (fq.m k).s:=by
  refine ⟨Tryz.f157,Tryz.func157,by kernel_rfl,by kernel_rfl,fun nb g W fr d ys vs r hw hl hy hs => ?_⟩;obtain ⟨o,ho,hr⟩:=Option.bind_eq_some_iff.mp hs;obtain ⟨a,ha,rfl⟩:=Option.map_eq_some_iff.mp ho;obtain ⟨x,hx,rfl⟩:=Option.map_eq_some_iff.mp hr;obtain ⟨q1,q2⟩:=nJ (nb':=nb) (g0:=g) rfl ha (vs:=vs.toList) (by simpa using hl) (fun i x v hx hv fr' i'=>hy i x v hx (by simpa using hv) fr' i');obtain ⟨x0,x1,_⟩:=a;have e:vs=#[.int .u64 x0,.int .u64 x1]:=by
    have e0:∃ u0 u1,vs.toList=[u0,u1]:=by
      have:vs.toList.length=2:=q1.symm
      match vs.toList,this with
      | [u0,u1],_=>exact ⟨u0,u1,rfl⟩
    obtain ⟨u0,u1,e0⟩:=e0;rw [e0] at q2;have h0:u0=.int .u64 x0∧_:=q2 0 _ _ rfl rfl 0 0;have h1:u1=.int .u64 x1∧_:=q2 1 _ _ rfl rfl 0 0;rw [h0.1,h1.1] at e0;exact Array.toList_inj.1 e0
  rw [e];refine (P.fq.calls k x0 x1 x W hx).mono ?_;rintro e W' ⟨rfl,hb⟩;obtain ⟨k1,k2⟩:=vv (A:=fun _=>True) (nb:=nb) hw hb;exact ⟨_,rfl,g,k1,rfl,k2,⟨rfl,rfl⟩⟩
end Go.Proofs.YtcomnjodjijcmaaGreat.R
namespace Go.Proofs.YtcomnjodjijcmaaGreat.M
noncomputable section
set_option linter.unusedVariables false
set_option linter.unusedSimpArgs false
open Go.RowKit Go.Proofs.YtcomnjodjijcmaaGreatW.dz Go.Proofs.YtcomnjodjijcmaaGreatW.dX
def ai6 (x:Int):List Int→List Int
  | []=>[x]
  | y :: r=>if x≤y then x :: y :: r else y :: ai6 x r
def jU:List Int→List Int
  | []=>[]
  | x :: r=>ai6 x (jU r)
theorem ahv (x:Int):∀ l:List Int,(ai6 x l).Perm (x :: l)
  | []=>List.Perm.refl _
  | y :: r=>by
    unfold ai6;split
    · exact List.Perm.refl _
    · exact ((ahv x r).cons y).trans (List.Perm.swap x y r)
theorem aiI {x:Int}:∀ {l:List Int},l.Pairwise (· ≤ ·)→(ai6 x l).Pairwise (· ≤ ·)
  | [],_=>by simp [ai6]
  | y :: r,h=>by
    obtain ⟨h1,h2⟩:=List.pairwise_cons.1 h;unfold ai6;split
    · rename_i hx
      exact List.pairwise_cons.2 ⟨fun z hz=>by
        rcases List.mem_cons.1 hz with rfl | hz
        · exact hx
        · exact Int.le_trans hx (h1 z hz),h⟩
    · rename_i hx
      exact List.pairwise_cons.2 ⟨fun z hz=>by
        rcases List.mem_cons.1 ((ahv x r).mem_iff.1 hz) with rfl | hz
        · omega
        · exact h1 z hz,aiI h2⟩
theorem agY:∀ l:List Int,(jU l).Perm l
  | []=>List.Perm.refl _
  | x :: r=>(ahv x _).trans ((agY r).cons x)
theorem ade:∀ l:List Int,(jU l).Pairwise (· ≤ ·)
  | []=>List.Pairwise.nil
  | x :: r=>aiI (ade r)
theorem ahw (l:List Int):(jU l).length=l.length:=(agY l).length_eq
theorem aiJ:∀ {a b:List Int},a.Pairwise (· ≤ ·)→b.Pairwise (· ≤ ·)→a.Perm b→a=b
  | [],b,_,_,h=>(List.Perm.nil_eq h)
  | x :: a,[],_,_,h=>by simp at h
  | x :: a,y :: b,ha,hb,h=>by
    obtain ⟨h1,h2⟩:=List.pairwise_cons.1 ha;obtain ⟨h3,h4⟩:=List.pairwise_cons.1 hb;have hxy:x=y:=by
      rcases List.mem_cons.1 (h.mem_iff.1 (List.mem_cons_self (a:=x) (l:=a))) with e | e
      · exact e
      · rcases List.mem_cons.1 (h.mem_iff.2 (List.mem_cons_self (a:=y) (l:=b))) with e' | e'
        · exact e'.symm
        · have:=h3 x e;have:=h1 y e';omega
    subst hxy;rw [aiJ h2 h4 (List.Perm.cons_inv h)]
theorem ahx (l:List Int):(l.mergeSort fun x y=>decide (x≤y))=jU l :=
  aiJ ((List.pairwise_mergeSort (le:=fun x y=>decide (x≤y)) (fun a b c h1 h2=>by simp only [decide_eq_true_eq] at *;omega) (fun a b=>by simp only [Bool.or_eq_true,decide_eq_true_eq];omega) l).imp (fun h=>by simpa using h)) (ade l) ((List.mergeSort_perm l _).trans (agY l).symm)
def iN (xs:List Int):List Int:=Lib.compact xs
def aeu:List AV→List Bx→Option (Bool × AV × List Bx)
  | [.pt (.one (.ar l (.int .i64) _))],bx=>match bx[l]? with
    | some (.arr e (.int .i64) xs)=>some (decide (xs.length≤8796093022208),.tup [],bx.set l (.arr e (.int .i64) (jU xs)))
    | _=>none
  | _,_=>none
def sO:List AV→List Bx→Option (Bool × AV × List Bx)
  | [.pt (.one (.ar l (.int .i64) _))],bx=>match bx[l]? with
    | some (.arr e (.int .i64) xs)=>some (decide (xs.length≤8796093022208),.pt (.one (.sl (.int .i64) (iN xs))),bx.set l .gone)
    | _=>none
  | _,_=>none
section
variable {P:Program} {g:Gh} {W:World} {bx:List Bx} {l:Nat} {e:TypeId} {xs:List Int}
theorem sP (w:World):Sort.grow w #[]=w:=by
  unfold Sort.grow;rw [Array.append_empty]
theorem oZ {A:Loc→Prop} {nb:Nat} {g:Gh} {W:World} (hw:Wf g W) (q:Nat) (os:Array Obj):Evo A nb g W g (Sort.grow (W.drewN q) os) :=
  ⟨rfl,rfl,rfl,by simp [Sort.grow],fun b o hp=>⟨hp,fun v hv=>by
    have hlt:=hw.pr b o hp;unfold World.cell? at hv ⊢;simp only [Sort.grow,World.heap_drewN] at hv ⊢;rw [Array.getElem?_append_left hlt];exact hv⟩,fun b hb _=>⟨by simp only [Sort.grow,World.heap_drewN];rw [Array.getElem?_append_left hb],rfl,fun _ h=>h⟩,fun _ _ hl=>⟨hl,rfl,rfl,rfl⟩⟩
theorem aaX {A:Loc→Prop} {g:Gh} {W W':World} (hw:Wf g W) (h:nR g W bx) (hE:Evo A bx.length g W g W') (hA:∀ ℓ,A ℓ):nR g W' bx:=fun l B hB =>
  BxR.evo hE (Nat.le_refl _) hw (List.getElem?_eq_some_iff.1 hB).1 (fun _=>hA _) (hA _) (fun h=>h) (h l B hB)
theorem aaY (hw:Wf g W) (hbx:nR g W bx) (ht:∀ l,bx.length≤l→¬ g.lv l) (hl:bx[l]? = some (.arr e (.int .i64) xs)) {b n c:Nat} (aa:g.av l=.slice (some ⟨b,0,none⟩) n c) (fr:Nat) :
    n=xs.length∧xs.length≤c∧Sort.Holds (Value.int .i64) W b 0 xs.toArray∧b<W.heap.size∧(g.ow b=some (.bx l)∧∀ o,¬ g.pr b o)∧∀ (ys:List Int),ys.length=xs.length→∀ q:Nat,
      Wf g ((W.drewN q).setCells b 0 (ys.map (Value.int .i64)))∧nR g ((W.drewN q).setCells b 0 (ys.map (Value.int .i64))) (bx.set l (.arr e (.int .i64) ys))∧Evo (Loc.below fr) bx.length g W g ((W.drewN q).setCells b 0 (ys.map (Value.int .i64)))∧(W.drewN q).setCells b 0 (ys.map (Value.int .i64))=Sort.grow ((W.drewN q).setCells b 0 (ys.map (Value.int .i64))) #[]:=by
  have hR:Rel fr g W ⟨[],bx⟩ #[]:=⟨hw,⟨rfl,fun i x v hx=>by simp at hx⟩,hbx,ht⟩;obtain ⟨b0,⟨A,c',q1,q2,q3⟩,⟨cs,q4⟩,q5⟩:=hbx l _ hl;rw [aa] at q1 q4 q5;simp only [Value.slice.injEq] at q1;obtain ⟨rfl,rfl,rfl⟩:=q1;obtain ⟨hb1,hb2⟩:=q5 b rfl;obtain ⟨gb,cap,cur,e1,hbase,hheap,hnc,hcm,hcs,htake⟩:∃ gb cap,∃ cur:Array Value,Value.slice (some ⟨b,0,none⟩) xs.length c=.slice (some ⟨gb,0,none⟩) xs.length cap∧0≤gb∧W.heap[gb]? = some (.cells cur e (0,0))∧xs.length≤cap∧cap≤maxLen∧cur.size=cap*1∧cur.toList.take (xs.length*1)=cs:=by
    rcases q4.2 with ⟨e1,_⟩ | h
    · cases e1
    · exact h
  simp only [Value.slice.injEq,Option.some.injEq,Addr.mk.injEq,true_and,and_true] at e1;obtain ⟨rfl,rfl⟩:=e1;have hH:Sort.Holds (Value.int .i64) W b 0 xs.toArray:=fun j hj=>by
    have hj':j<xs.length:=by simpa using hj
    obtain ⟨b',o',vs,e2,hv,hL,hC⟩:=q3 j _ (List.getElem?_eq_getElem hj');simp only [Option.some.injEq,Addr.mk.injEq,and_true] at e2;obtain ⟨rfl,rfl⟩:=e2;have hv:vs=[.int .i64 xs[j]]:=hv;subst hv;have:=hC 0 _ rfl;simp only [Ty.sz,Nat.mul_one,Nat.add_zero] at this;refine ⟨?_,?_⟩
    · rw [this]
      simp [hj']
    · simp [World.frozen?,hheap]
  refine ⟨rfl,q2,hH,hw.ow b _ hb1,⟨hb1,hb2⟩,fun ys hys q => ?_⟩;have hR':Rel fr g (W.drewN q) ⟨[],bx⟩ #[]:=⟨⟨hw.pr,hw.ow⟩,⟨rfl,fun i x v hx=>by simp at hx⟩,aaX hw hbx (A:=fun _=>True) (by have:=oZ (A:=fun _=>True) (nb:=bx.length) hw q #[];rwa [sP] at this) (fun _=>trivial),ht⟩;obtain ⟨k1,k2⟩:=pW (k:=.int .i64) (us:=ys.map (Value.int .i64)) (o:=0) (xs':=ys) hR' hl aa (by simp [Ty.sz,hys]) (by exact hys) (fun i x hi=>by
    refine ⟨[.int .i64 x],rfl,rfl,fun j v hv => ?_⟩;have hi':i<ys.length:=(List.getElem?_eq_some_iff.1 hi).1;obtain rfl:j=0:=by
      have:=(List.getElem?_eq_some_iff.1 hv).1;simpa using this
    simp only [Ty.sz,Nat.mul_one,Nat.add_zero,Nat.sub_zero];rw [if_pos (by simpa using hi'),List.getElem?_map,hi];simpa using hv)
  refine ⟨k1.wf,k1.bx,?_,(sP _).symm⟩;have h1:=oZ (A:=Loc.below fr) (nb:=bx.length) hw q #[];rw [sP] at h1;exact h1.trans k2 (Nat.le_refl _)
theorem aaZ (hbx:nR g W bx) (hl:bx[l]? = some (.arr e (.int .i64) xs)) {ℓ:Loc} {n:Nat} {v:Value} (hv:CR bx.length g W ℓ (.ar l (.int .i64) n) v) :
    (xs=[]∧∃ A c,v=.slice A 0 c)∨∃ b c,v=.slice (some ⟨b,0,none⟩) xs.length c∧g.av l=.slice (some ⟨b,0,none⟩) xs.length c:=by
  obtain ⟨_,rfl,A,c,h1,h2,h3⟩:=hv;obtain ⟨b0,⟨A',c',q1,q2,q3⟩,_⟩:=hbx l _ hl;rw [h1] at q1;simp only [Value.slice.injEq] at q1;obtain ⟨rfl,rfl,rfl⟩:=q1;rcases Nat.eq_zero_or_pos xs.length with hz | hp
  · left
    exact ⟨List.length_eq_zero_iff.1 hz,A,c,by rw [h1,hz]⟩
  · right
    obtain ⟨b,rfl⟩:=h3 hp;exact ⟨b,c,h1,h1⟩
theorem acU {f:FuncId} (hf:∃ fn,P.funcs[f]? = some fn∧(fn.name == "runtime.NumGoroutine")=false∧fn.body.isSome=true)
    (h1:∀ (blk off cap:Nat) (zs:List Int) (w:World),Sort.Holds (Value.int .i64) w blk off zs.toArray→blk<w.heap.size→zs.length<4611686018427387904→Calls P f #[.slice (some ⟨blk,off,none⟩) zs.length cap] w fun e w'=>e=.returned (.tuple #[])∧∃ n os,w'=Sort.grow (Sort.putRow (Value.int .i64) (Sort.ahead w n) blk off (zs.mergeSort fun x y=>decide (x≤y)).toArray) os)
    (h0:∀ (p:Option Addr) (cap:Nat) (w:World),Calls P f #[.slice p 0 cap] w fun e w'=>e=.returned (.tuple #[])∧w'=w):aeU P f aeu:=by
  refine ⟨hf,fun g W fr d ys vs bx bx' r hw hbx ht hl hy hs => ?_⟩;unfold aeu at hs;split at hs
  case h_2=>cases hs
  rename_i l n
  split at hs
  case h_2=>cases hs
  rename_i e xs hb
  simp only [Option.some.injEq,Prod.mk.injEq,decide_eq_true_eq] at hs;obtain ⟨hm,rfl,rfl⟩:=hs;refine ⟨rfl,?_⟩;obtain ⟨v,rfl⟩:∃ v,vs=#[v]:=by
    have:vs.size=1:=by simpa using hl.symm
    exact ⟨vs[0],by
        ext i h1 h2;· simpa using this
        · simp at h2;subst h2;rfl⟩
  have hv:CR bx.length g W (.tm 0 0 0 0) (.ar l (.int .i64) n) v:=hy 0 _ v rfl rfl 0 0;have hlt:l<bx.length:=(List.getElem?_eq_some_iff.1 hb).1;rcases aaZ hbx hb hv with ⟨rfl,A,c,rfl⟩ | ⟨b,c,rfl,aa⟩
  · refine (h0 A c W).mono ?_
    rintro e0 W' ⟨rfl,rfl⟩;refine ⟨_,rfl,g,hw,?_,by simpa using ht,by simp,Evo.refl _ _ _ _,#[],rfl,rfl,fun j p v hp=>by simp at hp⟩;have:bx.set l (.arr e (.int .i64) (jU []))=bx:=by
      rw [show jU []=([]:List Int) from rfl];exact List.ext_getElem? fun i=>by
        rw [List.getElem?_set];split
        · rename_i e2;subst e2;exact hb.symm
        · rfl
    rw [this];exact hbx
  · obtain ⟨_,hc,hH,hlt2,_,hset⟩:=aaY hw hbx ht hb aa (fr+1)
    have hlen:(jU xs).length=xs.length:=ahw xs;refine (h1 b 0 c xs W hH hlt2 (by omega)).mono ?_;rintro e0 W' ⟨rfl,q,os,rfl⟩;have hbr:=Lib.putRow_eq_setCells (Value.int .i64) W b 0 xs.toArray (jU xs) q hH (by simpa using hlen);rw [ahx,hbr];obtain ⟨k1,k2,k3,_⟩:=hset (jU xs) hlen q;have hE:=oZ (A:=Loc.below (fr+1)) (nb:=bx.length) k1 0 os;rw [show ∀ w:World,w.drewN 0=w from fun w=>rfl] at hE;have hE':Evo (fun _=>True) (bx.set l (.arr e (.int .i64) (jU xs))).length g _ g _:=oZ (A:=fun _=>True) k1 0 os;refine ⟨_,rfl,g,⟨fun b o hp=>Nat.lt_of_lt_of_le (k1.pr b o hp) hE.size,fun b ℓ hp=>Nat.lt_of_lt_of_le (k1.ow b ℓ hp) hE.size⟩,aaX k1 k2 hE' (fun _=>trivial),by simpa using ht,by simp,k3.trans hE (Nat.le_refl _),#[],rfl,rfl,fun j p v hp=>by simp at hp⟩
theorem wK {f:FuncId} (hf:∃ fn,P.funcs[f]? = some fn∧(fn.name == "runtime.NumGoroutine")=false∧fn.body.isSome=true)
    (h1:∀ (blk off cap:Nat) (zs:List Int) (w:World),Sort.Holds (Value.int .i64) w blk off zs.toArray→zs.length≤9223372036854775807→zs.length≤cap→Calls P f #[.slice (some ⟨blk,off,none⟩) zs.length cap] w fun e w'=>e=.returned (.slice (some ⟨blk,off,none⟩) (Lib.compact zs).length cap)∧∃ q,w'=Sort.putRow (Value.int .i64) (Sort.ahead w q) blk off (Lib.compact zs++List.replicate (zs.length - (Lib.compact zs).length) 0).toArray)
    (h0:∀ (a:Option Addr) (cap:Nat) (w:World),Calls P f #[.slice a 0 cap] w fun e w'=>e=.returned (.slice a 0 cap)∧w'=w):aeU P f sO:=by
  refine ⟨hf,fun g W fr d ys vs bx bx' r hw hbx ht hl hy hs => ?_⟩;unfold sO at hs;split at hs
  case h_2=>cases hs
  rename_i l n
  split at hs
  case h_2=>cases hs
  rename_i e xs hb
  simp only [Option.some.injEq,Prod.mk.injEq,decide_eq_true_eq] at hs;obtain ⟨hm,rfl,rfl⟩:=hs;refine ⟨rfl,?_⟩;obtain ⟨v,rfl⟩:∃ v,vs=#[v]:=by
    have:vs.size=1:=by simpa using hl.symm
    exact ⟨vs[0],by
        ext i h1 h2;· simpa using this
        · simp at h2;subst h2;rfl⟩
  have hv:CR bx.length g W (.tm 0 0 0 0) (.ar l (.int .i64) n) v:=hy 0 _ v rfl rfl 0 0;have hlt:l<bx.length:=(List.getElem?_eq_some_iff.1 hb).1;have gone:∀ {g':Gh} {W':World} {A:Loc→Prop},Wf g W'→nR g W' bx∨(∃ zs,nR g W' (bx.set l (.arr e (.int .i64) zs)))→Evo A bx.length g W' g' W'→(∀ ℓ,ℓ≠.bx l→A ℓ)→(∀ l,g'.lv l→g.lv l)→g.lv l→nR g' W' (bx.set l .gone):=fun {g' W' A} hw' hB hE hA hlv hg l' B hB'=>by
    rw [List.length_set];rw [List.getElem?_set] at hB';by_cases e':l=l'
    · subst e'
      rw [if_pos rfl,if_pos hlt] at hB';cases hB';exact (hE.bx l hlt hg).1
    · rw [if_neg e'] at hB'
      have h3:BxR bx.length g W' l' B:=by
        rcases hB with hB | ⟨zs,hB⟩
        · exact hB l' B hB'
        · have:=hB l' B (by rw [List.getElem?_set,if_neg e'];exact hB')
          rwa [List.length_set] at this
      exact BxR.evo hE (Nat.le_refl _) hw' (List.getElem?_eq_some_iff.1 hB').1 (fun _=>hA _ (fun e2=>by cases e2)) (hA _ (fun e2=>e' (by injection e2 with e2;exact e2.symm))) (hlv l') h3
  have hg:g.lv l:=(hbx l _ hb).1;rcases aaZ hbx hb hv with ⟨rfl,A,c,rfl⟩ | ⟨b,c,rfl,aa⟩
  · refine (h0 A c W).mono ?_
    rintro e0 W' ⟨rfl,rfl⟩;have hc0:iN []=([]:List Int):=rfl;refine ⟨_,rfl,g,hw,gone hw (.inl hbx) (A:=fun _=>True) (Evo.refl _ _ _ _) (fun _ _=>trivial) (fun _ h=>h) hg,by simpa using ht,by simp,Evo.refl _ _ _ _,?_⟩;rw [hc0];exact ⟨A,c,rfl,Nat.zero_le _,fun i x hx=>by simp at hx⟩
  · obtain ⟨_,hc,hH,hlt2,⟨hb1,hb2⟩,hset⟩:=aaY hw hbx ht hb aa (fr+1)
    have hle:(iN xs).length≤xs.length:=Lib.compact_length_le xs;obtain ⟨zs,hzs⟩:∃ zs,zs=iN xs++List.replicate (xs.length - (iN xs).length) 0:=⟨_,rfl⟩;have hlen:zs.length=xs.length:=by rw [hzs];simp;omega
    refine (h1 b 0 c xs W hH (by omega) hc).mono ?_;rintro e0 W' ⟨rfl,q,rfl⟩;have hbr:=Lib.putRow_eq_setCells (Value.int .i64) W b 0 xs.toArray zs q hH (by simpa using hlen);have hz2:(Lib.compact xs++List.replicate (xs.length - (Lib.compact xs).length) 0).toArray=zs.toArray:=by rw [hzs];rfl
    rw [hz2,hbr];obtain ⟨k1,k2,k3,_⟩:=hset zs hlen q;generalize hW':(W.drewN q).setCells b 0 (zs.map (Value.int .i64))=W' at k1 k2 k3;obtain ⟨g',hg'⟩:∃ g':Gh,g'={ g with pr:=fun b' o=>g.pr b' o∨(b'=b∧o<(iN xs).length) }:=⟨_,rfl⟩;have hev:Evo (fun ℓ=>ℓ≠.bx l) bx.length g W' g' W':=by
      subst hg';exact ⟨rfl,rfl,rfl,Nat.le_refl _,fun b o hp=>⟨.inl hp,fun v hv=>hv⟩,fun b' hb' ho=>⟨rfl,rfl,fun o hp=>hp.resolve_right (fun hh=>ho _ (hh.1 ▸ hb1) rfl)⟩,fun _ _ hv=>⟨hv,rfl,rfl,rfl⟩⟩
    have hwf:Wf g' W':=by
      subst hg';refine ⟨fun b' o hp => ?_,k1.ow⟩;rcases hp with hp | ⟨rfl,_⟩
      · exact k1.pr b' o hp
      · exact k1.ow b' _ hb1
    refine ⟨_,rfl,g',hwf,gone k1 (.inr ⟨zs,k2⟩) hev (fun _ h=>h) (fun l h=>by subst hg';exact h) hg,by subst hg';simpa using ht,by simp,k3.trans (hev.weaken (fun ℓ hb e2=>by subst e2;exact hb) (Nat.le_refl _)) (Nat.le_refl _),some ⟨b,0,none⟩,c,rfl,by omega,fun i x hi => ?_⟩
    · have hi':i<(iN xs).length:=(List.getElem?_eq_some_iff.1 hi).1
      refine ⟨b,0,[.int .i64 x],rfl,rfl,rfl,fun j v hv => ?_⟩;obtain rfl:j=0:=by
        have:=(List.getElem?_eq_some_iff.1 hv).1;simpa using this
      simp only [Ty.sz,Nat.mul_one,Nat.add_zero,Nat.zero_add];refine ⟨?_,by subst hg';exact .inr ⟨rfl,hi'⟩⟩;obtain ⟨_,⟨A',c',p1,p2,p3⟩,_⟩:=k2 l (.arr e (.int .i64) zs) (by rw [List.getElem?_set,if_pos rfl,if_pos hlt]);rw [aa] at p1;simp only [Value.slice.injEq] at p1;obtain ⟨rfl,_,rfl⟩:=p1;obtain ⟨b2,o2,us,e3,hu,hL,hC⟩:=p3 i x (by rw [hzs,List.getElem?_append_left hi'];exact hi);simp only [Option.some.injEq,Addr.mk.injEq,and_true] at e3;obtain ⟨rfl,rfl⟩:=e3;have hu:us=[.int .i64 x]:=hu;subst hu;have:=hC 0 v hv;simpa [Ty.sz] using this
end
end
end Go.Proofs.YtcomnjodjijcmaaGreat.M

/- Lemmas for laws of chapter 7: what the functions that they reach compute. No condition of its own. -/
import Derived.Test.YtcomnjodjijcmaaGreatYE7
namespace Go.Proofs.YtcomnjodjijcmaaGreat.M
noncomputable section
set_option linter.unusedVariables false
set_option linter.unusedSimpArgs false
open Go.RowKit Go.Proofs.YtcomnjodjijcmaaGreatW.dz Go.Proofs.YtcomnjodjijcmaaGreatW.dX
section
variable {P:Program} {T:Tb} {nb:Nat} {g g0:Gh} {W W0:World} {fr d:Nat} {σ:St} {a:Act}
theorem zA (fn:Func) (t:Array Value):results fn t=(do
  let vs ← fn.results.mapM (rG t)
  pure (if h:vs.size=1 then vs[0] else .tuple vs)):=by
  unfold results;congr 2
theorem aed:∀ {ps:List Pt} {vs:List Value},ps.length=vs.length→(∀ (j:Nat) (p:Pt) (v:Value),ps[j]? = some p→vs[j]? = some v→PtR nb g W (.tm fr d j) p v)→AVR nb g W fr d (mD ps) (if h:vs.toArray.size=1 then vs.toArray[0] else .tuple vs.toArray)
  | [p],[v],_,hq=>hq 0 p v rfl rfl
  | [],[],_,_=>⟨#[],rfl,rfl,fun j p v hp=>by simp at hp⟩
  | p :: p' :: ps,v :: v' :: vs,hl,hq=>by
    rw [dif_neg (by simp)];exact ⟨_,rfl,by simpa using hl,fun j p v hp hv=>hq j p v hp (by simpa using hv)⟩
  | [],_ :: _,hl,_=>by simp at hl
  | [_],_ :: _ :: _,hl,_=>by simp at hl
  | [_],[],hl,_=>by simp at hl
  | _ :: _ :: _,[],hl,_=>by simp at hl
  | _ :: _ :: _,[_],hl,_=>by simp at hl
theorem aee (hT:lX P T) (h:Rel (fr+1) g W σ a.tmps) {fn:Func} {ps:List Pt} {σ':St} (hr:uY T fn.results.toList σ=some (ps,σ')):∃ v g',(results fn a.tmps).run P W=.ok v W∧Rel (fr+1) g' W σ' a.tmps∧Evo (Loc.below (fr+1)) σ.bx.length g W g' W∧σ'.bx.length=σ.bx.length∧AVR σ'.bx.length (g'.ren (fR fr d)) W fr d (mD ps) v:=by
  obtain ⟨vs,g',q1,q2,q3,q4,q5,q6,_⟩:=wz hT 0 h hr;have hrun:(results fn a.tmps).run P W=.ok (if h:vs.toArray.size=1 then vs.toArray[0] else .tuple vs.toArray) W:=by
    rw [zA,Array.mapM_eq_mapM_toList];simp only [Sem.run_bind,map_eq_pure_bind,q1,Result.andThen_ok,Sem.run_pure]
  refine ⟨_,g',hrun,q3,q4,q5,?_⟩;rw [q5];refine aed q2 (fun j p v hp hv => ?_);have:=q6 j p v hp hv;rw [Nat.zero_add] at this;exact PtR.ren (fun k=>rfl) this
def kN (n:Nat) (r:AV) (bx:List Bx):AV × List Bx:=if r.refs n=true then (r,bx) else (r.cut n,sw n bx)
def qm (fn:Func) (ys:List AV) (bs:List Nat):List AV:=(ys++bs.map fun l=>.pt (.one (.bp l 0)))++List.replicate (fn.ntmps - (ys.length+bs.length)) (.pt (.one .ud))
def wB (Ek:Nat→Env) (A:Ann) (fF:Hd→Nat→ji) (Y:Hd) (k:Nat) (fn:Func) (bs:List Nat) (ys:List AV) (bx:List Bx):Option (AV × List Bx) :=
  match fn.body with
  | some code=>match iY Ek A fF Y none code k 0 ⟨qm fn ys bs,bx⟩ with
    | some (.normal,σ)=>(uY (Ek k).T fn.results.toList σ).map fun q=>kN bx.length (mD q.1) q.2.bx
    | some (.ret,σ)=>(uY (Ek k).T fn.results.toList σ).map fun q=>kN bx.length (mD q.1) q.2.bx
    | _=>none
  | none=>none
def qM (Ek:Nat→Env) (fns:FuncId→Option Func) (aef:FuncId→Ann):Nat→Hd→Nat→ji
  | 0,_,_=>fun _ _ _=>none
  | n+1,Y,k=>fun c ys bx=>match c with
    | .yl l=>(Y l).bind fun h=>h ys bx
    | .fn f bs=>match (Ek k).mt f with
      | some m=>(match bs with
        | []=>(match m ys bx with
          | some q=>if q.1=true then some q.2 else none
          | none=>none)
        | _ :: _=>none)
      | none=>(fns f).bind fun fn=>wB Ek (aef f) (qM Ek fns aef n) Y k fn bs ys bx
    | _=>none
def aff (P:Program) (fns:FuncId→Option Func):Prop:=∀ f fn,fns f=some fn→P.funcs[f]? = some fn∧(fn.name == "runtime.NumGoroutine")=false
theorem acF {fn:Func} {ys:List AV} {bs:List Nat} {vs:Array Value} (hb:∀ l∈bs,l<nb∧g.lv l) (hl:ys.length=vs.size) (hy:∀ (i:Nat) (x:AV) (v:Value),ys[i]? = some x→vs[i]? = some v→∀ fr' i',AVR nb g W fr' i' x v) :
    FrR nb g W fr (qm fn ys bs) ((vs++(bs.map fun l=>Value.pointer (some ⟨g.bx l,0,none⟩)).toArray)++Array.replicate (fn.ntmps - (vs++(bs.map fun l=>Value.pointer (some ⟨g.bx l,0,none⟩)).toArray).size) undef):=by
  unfold qm;refine ⟨by simp [hl],fun i x v hx hv => ?_⟩;by_cases h1:i<ys.length
  · rw [List.getElem?_append_left (by simp;omega),List.getElem?_append_left h1] at hx
    rw [Array.getElem?_append_left (by simp;omega),Array.getElem?_append_left (by omega)] at hv;exact hy i x v hx hv fr i
  · by_cases h2:i<ys.length+bs.length
    · rw [List.getElem?_append_left (by simpa using h2),List.getElem?_append_right (by omega),List.getElem?_map] at hx
      rw [Array.getElem?_append_left (by simp;omega),Array.getElem?_append_right (by omega),← hl] at hv;obtain ⟨l,h0,rfl⟩:=Option.map_eq_some_iff.mp hx;simp [h0] at hv;subst hv;exact ⟨hb l (List.mem_of_getElem? h0),rfl⟩
    · rw [List.getElem?_append_right (by simp;omega),List.getElem?_replicate] at hx
      rw [Array.getElem?_append_right (by simp;omega),Array.getElem?_replicate] at hv;split at hx
      case isFalse=>cases hx
      split at hv
      case isFalse=>cases hv
      cases hx
      cases hv
      rfl
theorem aaN {Ek:Nat→Env} {A:Ann} {fF:Hd→Nat→ji} (hm:P.follows .mixedOrders=true) (hT:∀ k,lX P (Ek k).T) (hS:∀ k,nV P (Ek k)) (hG:sF P fF) {Y:Hd} {k f:Nat} {fn:Func} (hf:P.funcs[f]? = some fn) {bs:List Nat} {ys:List AV} {vs:Array Value} {bx bx':List Bx} {r:AV}
    (hY:YOk P Y bx.length g W) (hw:Wf g W) (hbx:nR g W bx) (ht:∀ l,bx.length≤l→¬ g.lv l) (hb:∀ l∈bs,l<bx.length∧g.lv l) (hl:ys.length=vs.size) (hy:∀ (i:Nat) (x:AV) (v:Value),ys[i]? = some x→vs[i]? = some v→∀ fr' i',AVR bx.length g W fr' i' x v)
    (hs:wB Ek A fF Y k fn bs ys bx=some (r,bx')) (d:Nat):fn.body.isSome=true∧Calls P f (vs++(bs.map fun l=>Value.pointer (some ⟨g.bx l,0,none⟩)).toArray) W fun e W'=>∃ v,e=.returned v∧After fr d g W bx bx' r v W':=by
  unfold wB at hs;split at hs
  case h_2=>cases hs
  rename_i code hc
  refine ⟨by rw [hc];rfl,?_⟩;have key:∀ σ,(∃ e,(e=dQ.normal∨e=.ret)∧iY Ek A fF Y none code k 0 ⟨qm fn ys bs,bx⟩=some (e,σ))→(uY (Ek k).T fn.results.toList σ).map (fun q=>kN bx.length (mD q.1) q.2.bx)=some (r,bx')→Calls P f (vs++(bs.map fun l=>Value.pointer (some ⟨g.bx l,0,none⟩)).toArray) W fun e W'=>∃ v,e=.returned v∧After fr d g W bx bx' r v W':=by
    rintro σ ⟨e,he,hev⟩ hres;obtain ⟨⟨ps,σ9⟩,hr0,hcl⟩:=Option.map_eq_some_iff.mp hres;refine (callsIn_wide (n:=0)).1 (callsIn_of_wp_marks hf hc trivial ?_);refine acD hm hT hS hG code Y none k 0 _ e σ hev none (fr+1) W.heap.size g W _ 0 _ hY (.inl ⟨rfl,rfl⟩) tY.nil (Nat.le_refl _) ⟨hw,acF hb hl hy,hbx,ht⟩ (fun g1 W1 a1 af hE1 hl1 hD1 => ?_);obtain ⟨Ds,hds,nd,hDs⟩:=hD1;have hfin:LeavesInM Fence.wide 0 P fn a1.tmps (fun e W'=>∃ v,e=.returned v∧After fr d g W bx bx' r v W') a1.defers .returning W1:=by
      rw [hds];refine uX (A:=Loc.below (fr+1)) (g0:=g) (W0:=W) (nb:=bx.length) (fun W2 hR2 hE2 => ?_) Ds W1 nd hDs af hE1;obtain ⟨v,g2,hv1,ab,ah,hlen,hv2⟩:=aee (d:=d) (hT k) hR2 hr0;have ac:Evo (Loc.below (fr+1)) bx.length g W (g2.ren (fR fr d)) W2:=(hE2.trans ah hl1).trans (Evo.ren (nb:=bx.length) acE) (Nat.le_refl _);have hb3:nR (g2.ren (fR fr d)) W2 σ9.bx:=ab.bx.ren (fun _ _=>rfl) (fun _=>rfl);have aa:bx.length≤σ9.bx.length:=by rw [hlen];exact hl1
      refine ⟨v,hv1,v,rfl,?_⟩;unfold kN at hcl;split at hcl
      · cases hcl
        exact ⟨_,ab.wf.ren,hb3,ab.top,aa,ac,hv2⟩
      · cases hcl
        exact ⟨_,ab.wf.ren.cut,hb3.cut aa,sD aa,by rw [jI aa];exact Nat.le_refl _,ac.trans Evo.cut (Nat.le_refl _),by rw [jI aa];exact hv2.cut⟩
    rcases he with rfl | rfl
    · exact hfin
    · exact hfin
  split at hs
  · rename_i σ hev
    exact key σ ⟨_,.inl rfl,hev⟩ hs
  · rename_i σ hev
    exact key σ ⟨_,.inr rfl,hev⟩ hs
  · cases hs
theorem aaO {T:Tb} {mv:Nat→Bool} {l n:Nat} {σ σ':St} {o:Oper} (hs:step T mv l σ o=some σ') (hp:vX o=true) (hl:n≤l):σ'.bx.take n=σ.bx.take n∧σ'.bx.length=σ.bx.length:=by
  have hq:quiet T σ o=some σ'→σ'.bx.take n=σ.bx.take n∧σ'.bx.length=σ.bx.length:=fun hq=>by
    obtain ⟨x,_,rfl⟩:=Option.map_eq_some_iff.mp hq;exact ⟨rfl,rfl⟩
  have hA:∀ {s d},moveA σ s d=some σ'→σ'.bx.take n=σ.bx.take n∧σ'.bx.length=σ.bx.length:=fun hs=>by
    obtain ⟨x,_,rfl⟩:=Option.map_eq_some_iff.mp hs;split <;> exact ⟨rfl,rfl⟩
  unfold vX at hp;unfold step at hs;split at hp
  · rename_i ho
    rw [ho] at hs;cases hd:o.dst with
    | none=>rw [hd] at hs;exact hq hs
    | some d =>
      rw [hd] at hs;simp only at hs;unfold abW at hs;split at hs
      · split at hs
        · cases hs
          exact ⟨by rw [List.take_set_of_le hl],by simp⟩
        · cases hs
      · cases hs
  · rename_i ho
    rw [ho] at hs;exact hq hs
  · rename_i x ho
    rw [ho] at hs;cases x with
    | tmp s =>
      cases hd:o.dst with
      | none=>rw [hd] at hs;exact hq hs
      | some d=>rw [hd] at hs;exact hA hs
    | _=>exact hq hs
  · cases hp
theorem uZ {E:Env} {mv:Nat→Bool} {call:ji} {ops:Array Oper} {l0 n:Nat} (hp:ops.toList.all vX=true) (hl:n≤l0):∀ (is:List Nat) (σ σ':St),acw E mv call ops l0 is σ=some σ'→σ'.bx.take n=σ.bx.take n∧σ'.bx.length=σ.bx.length
  | [],σ,σ',h=>by cases h;exact ⟨rfl,rfl⟩
  | i :: r,σ,σ',h=>by
    obtain ⟨σ1,h1,h2⟩:=Option.bind_eq_some_iff.mp h;obtain ⟨q1,q2⟩:=uZ hp hl r σ1 σ' h2;obtain ⟨o,ho,h3⟩:=Option.bind_eq_some_iff.mp h1;obtain ⟨b,_,h4⟩:=Option.bind_eq_some_iff.mp h3;have hpo:vX o=true:=List.all_eq_true.1 hp o (by
      rw [← Array.getElem?_toList] at ho;exact List.mem_of_getElem? ho)
    have:σ1.bx.take n=σ.bx.take n∧σ1.bx.length=σ.bx.length:=by
      split at h4
      · have he:exec E mv call (mI ops l0 i) σ o=step E.T mv (mI ops l0 i) σ o:=by
          unfold exec;unfold vX at hpo;split
          · rename_i c hc;rw [hc] at hpo;cases hpo
          · rfl
        rw [he] at h4;exact aaO h4 hpo (by unfold mI;omega)
      · cases h4;exact ⟨rfl,rfl⟩
    exact ⟨q1.trans this.1,q2.trans this.2⟩
theorem zB {Ek:Nat→Env} {A:Ann} {fF:Hd→Nat→ji} {Y:Hd} {rl:Option Nat} {n:Nat}:∀ (c:Code) (k cur:Nat) (σ σ':St) (e:dQ),yX c=true→n≤σ.bx.length→iY Ek A fF Y rl c k cur σ=some (e,σ')→σ'.bx.take n=σ.bx.take n∧n≤σ'.bx.length:=by
  intro c;induction c with
  | skip=>intro k cur σ σ' e hp hn h;cases h;exact ⟨rfl,hn⟩
  | ret=>intro k cur σ σ' e hp hn h;cases h;exact ⟨rfl,hn⟩
  | region id ops draw =>
    intro k cur σ σ' e hp hn hs;obtain ⟨σ1,h1,hs⟩:=Option.bind_eq_some_iff.mp hs;obtain ⟨σ2,h2,hs⟩:=Option.bind_eq_some_iff.mp hs;obtain ⟨σf,h3,h4⟩:=Option.map_eq_some_iff.mp hs;have hp:aco ops=true:=hp;have hg:ghO A id ops=([],[]):=by unfold ghO;rw [hp]
    rw [hg] at h1 h3;cases h1;cases h3;cases h4;unfold adp at h2;split at h2
    case isFalse=>cases h2
    have hpo:ops.toList.all vX=true:=by
      unfold aco at hp;rw [Bool.and_eq_true] at hp;exact hp.1
    obtain ⟨q1,q2⟩:=uZ (n:=n) hpo hn _ _ _ h2;refine ⟨q1.trans ?_,by rw [q2];simp only [M.reserve,List.length_append];omega⟩;simp only [M.reserve];rw [List.take_append_of_le_length hn]
  | seq x y ihx ihy =>
    intro k cur σ σ' e hp hn hs;have hp:(yX x&&yX y)=true:=hp;rw [Bool.and_eq_true] at hp;obtain ⟨⟨e1,σ1⟩,h1,h2⟩:=Option.bind_eq_some_iff.mp hs;obtain ⟨q1,q2⟩:=ihx k cur σ σ1 e1 hp.1 hn h1;cases e1 with
    | normal =>
      obtain ⟨⟨e3,σ3⟩,h3,h4⟩:=Option.map_eq_some_iff.mp h2;cases h4;obtain ⟨r1,r2⟩:=ihy k cur ⟨kill (A.lk (jn y)) σ1.tm,σ1.bx⟩ σ3 e3 hp.2 q2 h3;exact ⟨r1.trans q1,r2⟩
    | exit id=>cases h2;exact ⟨q1,q2⟩
    | ret=>cases h2;exact ⟨q1,q2⟩
    | goto l=>cases h2;exact ⟨q1,q2⟩
  | _=>intro k cur σ σ' e hp;cases hp
theorem vk {T:Tb}:∀ (rs:List ResultVar) (σ:St) (q:List Pt × St),(rs.all fun r=>match r with | .tmp _=>true | .cell _ _=>false)=true→uY T rs σ=some q→q.2.bx=σ.bx
  | [],σ,q,_,h=>by cases h;rfl
  | .cell _ _ :: _,σ,q,hp,h=>by simp at hp
  | .tmp t :: rs,σ,q,hp,h=>by
    simp only [uY] at h;split at h
    · obtain ⟨q',h1,rfl⟩:=Option.map_eq_some_iff.mp h
      have:=vk rs ⟨σ.tm.set t (.pt _),σ.bx⟩ q' (by simpa using hp) h1;exact this
    · cases h
theorem Cell.kY (n:Nat) (c:Cell):(c.cut n).refs n=false:=by
  cases c with
  | fn f bs =>
    simp only [Cell.cut];split
    · rename_i h
      simp only [Cell.refs];rw [List.any_eq_false];intro l hl;have:=List.all_eq_true.1 h l hl;simp at this ⊢;omega
    · rfl
  | bp l off=>simp only [Cell.cut];split <;> simp [Cell.refs];omega
  | yl l=>simp only [Cell.cut];split <;> simp [Cell.refs];omega
  | ar l t m=>simp only [Cell.cut];split <;> simp [Cell.refs];omega
  | ae l t i off=>simp only [Cell.cut];split <;> simp [Cell.refs];omega
  | mh l=>simp only [Cell.cut];split <;> simp [Cell.refs];omega
  | _=>rfl
theorem Pt.kY (n:Nat) (p:Pt):(p.cut n).refs n=false:=by
  cases p with
  | one c=>exact c.kY n
  | agg cs =>
    simp only [Pt.cut,Pt.refs];rw [List.any_eq_false];intro c hc;obtain ⟨c',_,rfl⟩:=List.mem_map.1 hc;rw [c'.kY n];simp
theorem AV.kY (n:Nat) (x:AV):(x.cut n).refs n=false:=by
  cases x with
  | pt p=>exact p.kY n
  | tup ps =>
    simp only [AV.cut,AV.refs];rw [List.any_eq_false];intro c hc;obtain ⟨c',_,rfl⟩:=List.mem_map.1 hc;rw [c'.kY n];simp
theorem zC {Ek:Nat→Env} {A:Ann} {fF:Hd→Nat→ji} {Y:Hd} {k:Nat} {fn:Func} {bs:List Nat} {ys:List AV} {bx bx':List Bx} {r:AV} (hp:aax fn=true) (h:wB Ek A fF Y k fn bs ys bx=some (r,bx')) (hr:r.refs bx.length=true):bx'.take bx.length=bx:=by
  unfold aax at hp;rw [Bool.and_eq_true] at hp;unfold wB at h;cases hb:fn.body with
  | none=>simp only [hb] at h;cases h
  | some code =>
    simp only [hb] at h hp;have key:∀ (e:dQ) (σ:St),iY Ek A fF Y none code k 0 ⟨qm fn ys bs,bx⟩=some (e,σ)→((uY (Ek k).T fn.results.toList σ).map fun q=>kN bx.length (mD q.1) q.2.bx)=some (r,bx')→bx'.take bx.length=bx:=by
      intro e σ h1 h2;obtain ⟨q1,q2⟩:=zB (n:=bx.length) code k 0 _ σ e hp.1 (Nat.le_refl _) h1;obtain ⟨q,h3,h4⟩:=Option.map_eq_some_iff.mp h2;have h5:=vk _ _ _ hp.2 h3;unfold kN at h4;split at h4
      · cases h4
        rw [h5,q1];exact List.take_length
      · cases h4
        rw [AV.kY] at hr;cases hr
    split at h
    · rename_i σ h1;exact key _ σ h1 h
    · rename_i σ h1;exact key _ σ h1 h
    · cases h
theorem xU {Ek:Nat→Env} {fns:FuncId→Option Func} {aef:FuncId→Ann} (hm:P.follows .mixedOrders=true) (hT:∀ k,lX P (Ek k).T) (hS:∀ k,nV P (Ek k)) (hF:aff P fns):∀ n,sF P (qM Ek fns aef n)
  | 0,Y,k,nb,g0,W0,fr,hY=>fun g W d ys vs c u bx bx' r _ _ _ _ _ _ _ _ hs=>by cases hs
  | n+1,Y,k,nb,g0,W0,fr,hY=>fun g W d ys vs c u bx bx' r hE hn hw hbx ht hc hl hy hs=>by
    have hG:=xU (aef:=aef) hm hT hS hF n;have ac:=hY.evo hE hn;unfold qM at hs;cases c with
    | yl l =>
      obtain ⟨h,h1,h2⟩:=Option.bind_eq_some_iff.mp hs;obtain ⟨hlv,rfl⟩:=hc;exact ⟨ac l h h1 g W fr d ys vs bx bx' r (Evo.refl _ _ _ _) (Nat.le_refl _) hw hbx ht hl hy h2,fun f caps e=>by cases e⟩
    | fn f bs =>
      simp only at hs;split at hs
      · rename_i m hm
        cases bs with
        | cons b r=>cases hs
        | nil =>
          obtain ⟨_,rfl⟩:=hc;obtain ⟨⟨fn,p1,p2,p3⟩,hC⟩:=(hS k).2.1 f m hm;simp only at hs;replace hs:m ys bx=some (true,r,bx'):=by
            split at hs
            · rename_i q hq
              split at hs
              · rename_i hb
                obtain ⟨b,q2⟩:=q;simp only at hb hs;cases hs;rw [hq,hb]
              · cases hs
            · cases hs
          obtain ⟨hr,aa⟩:=hC g W fr d ys vs bx bx' r hw hbx ht hl hy hs;have ab:Calls P f (vs++#[]) W fun e W'=>∃ v,e=.returned v∧After fr d g W bx bx' r v W':=by rw [show vs++#[]=vs by simp];exact aa
          refine ⟨Does.fn p1 p2 p3 ab,fun f' caps e => ?_⟩;injection e with e1 e2 e3
          injection e1 with e1
          subst e1;subst e3;exact ⟨⟨fn,p1,p2,p3⟩,ab,fun _ hr'=>by rw [hr] at hr';cases hr'⟩
      obtain ⟨fn,h1,h2⟩:=Option.bind_eq_some_iff.mp hs;obtain ⟨p1,p2⟩:=hF f fn h1;obtain ⟨hlv,rfl⟩:=hc;obtain ⟨p3,aa⟩:=aaN (fr:=fr) hm hT hS hG p1 ac hw hbx ht hlv hl hy h2 d;refine ⟨Does.fn p1 p2 p3 aa,fun f' caps e => ?_⟩;injection e with e1 e2 e3
      injection e1 with e1
      subst e1;subst e3;exact ⟨⟨fn,p1,p2,p3⟩,aa,fun ⟨fn',q1,q2⟩ hr=>by
        rw [p1] at q1;cases q1;exact zC q2 h2 hr⟩
    | v=>cases hs
    | sl=>cases hs
    | ow=>cases hs
    | bp=>cases hs
    | ep=>cases hs
    | mu=>cases hs
    | ar=>cases hs
    | ae=>cases hs
    | mh=>cases hs
    | ud=>cases hs
    | no=>cases hs
end
end
end Go.Proofs.YtcomnjodjijcmaaGreat.M
namespace Go.Proofs.YtcomnjodjijcmaaGreat.M
noncomputable section
set_option linter.unusedVariables false
set_option linter.unusedSimpArgs false
open Go.RowKit Go.Proofs.YtcomnjodjijcmaaGreatW.dz Go.Proofs.YtcomnjodjijcmaaGreatW.dX
structure Sm where
  α:Type
  rd:List AV→Option (Option α)
  av:α→AV
def Sm.s (m:Sm) (ys:List AV):Option AV:=(m.rd ys).bind fun o=>o.map m.av
structure oM where
  T:Tb
  sm:FuncId→Option Sm
  nw:FuncId→Bool
  mt:FuncId→Option (List AV→List Bx→Option (Bool × AV × List Bx))
def oM.env (E:oM) (fns:FuncId→Option Func):Env:=⟨E.T,fns,fun f=>(E.sm f).map Sm.s,E.nw,E.mt⟩
section
variable {γ:Type}
def Sm.k (m:Sm) (ys:List AV) (K:AV→Option γ):Option γ:=(m.rd ys).bind fun o=>o.bind fun x=>K (m.av x)
theorem Sm.k_eq (m:Sm) (ys:List AV) (K:AV→Option γ):m.k ys K=(m.s ys).bind K:=by
  unfold Sm.k Sm.s;cases m.rd ys with
  | none=>rfl
  | some o=>cases o <;> rfl
abbrev lQ (γ:Type):=Cell→List AV→List Bx→(AV→List Bx→Option γ)→Option γ
abbrev afg (γ:Type):=List AV→List Bx→(AV→List Bx→Option γ)→Option γ
abbrev HdK (γ:Type):=Nat→Option (afg γ)
def afh (tm:List AV):Operand→Bool→List AV
  | .tmp t,b=>tm.set t (mq b)
  | _,_=>tm
def agd (T:Tb) (t:TypeId) (op:BinOp) (u v:Value) (K:Value→Option γ):Option γ:=match op with
  | .quo=>(match u,v with
    | .int k a,.int k' b=>if k=k' then (if b=0 then none else K (.int k (wr k (Int.tdiv a b)))) else none
    | _,_=>none)
  | .rem=>(match u,v with
    | .int k a,.int k' b=>if k=k' then (if b=0 then none else K (.int k (Int.tmod a b))) else none
    | _,_=>none)
  | .shr=>(match u,v with
    | .int k a,.int k' b=>if b<0 then none else K (.int k (a.fdiv (2 ^ (min b.toNat k.bits))))
    | u,v=>(zT T t .shr u v).bind K)
  | op=>(zT T t op u v).bind K
def wD (T:Tb) (σ:St) (c:Call) (d:Nat) (K:St→Option γ):Option γ :=
  match c.callee,c.args.toList,c.argTypes.toList with
  | .builtin .append,[s,x],[t,t']=>if t=t' then (match T.el t,(pR T σ.tm t s).bind ownOf?,(opd T.zc σ.tm t x).bind slOf? with
    | some (e,k,by'),some (z,e',⟨k',xs⟩),some ⟨k2,ys⟩ =>
      if e'=e∧k'=k then (if h:k2=k' then (if xs.length+ys.length≤140737488355328 / by' then K ⟨(nT σ.tm s (.one (Cell.own z e' k' xs))).set d (.pt (.one (Cell.own z e' k' (xs++(h ▸ ys))))),σ.bx⟩ else none) else none) else none
    | _,_,_=>none) else none
  | _,_,_=>none
def mkK (T:Tb) (σ:St) (t:TypeId) (l c:Operand) (d:Nat) (K:St→Option γ):Option γ :=
  match (opd T.zc σ.tm 0 l).bind intOf?,(opd T.zc σ.tm 0 c).bind intOf?,T.el t with
  | some n,some m,some (e,k,by')=>(match (T.zc e).bind k.of with
    | some z=>if aav l c n m=true then (if 0≤n then (if n≤((140737488355328 / by':Nat):Int) then K ⟨σ.tm.set d (.pt (.one (.mu e k (List.replicate n.toNat z)))),σ.bx⟩ else none) else none) else none
    | none=>none)
  | _,_,_=>none
theorem afi {T:Tb} {σ:St} {t:TypeId} {l c:Operand} {d:Nat} {K:St→Option γ}:mkK T σ t l c d K=(mkS T σ t l c d).bind K:=by
  unfold mkK mkS;split
  · rename_i q1 q2 q3
    simp only [q1,q2,q3];split
    · rename_i q4
      simp only [q4];split
      · split
        · split <;> rfl
        · rfl
      · rfl
    · rename_i q4
      simp only [q4];rfl
  · rename_i hno
    split
    · exact (hno _ _ _ _ _ ‹_› ‹_› ‹_›).elim
    · rfl
theorem acG {δ:Type} {n:Int} {l h m:Option Int} {x:Option δ} {f:δ→Option γ}:(slC n l h m x).bind f=slC n l h m (x.bind f):=by
  unfold slC;split <;> first | rfl | (split <;> first | rfl | (split <;> first | rfl | (split <;> rfl)))
def acH (T:Tb) (mv:Nat→Bool) (l:Nat) (σ:St) (o:Oper) (K:St→Option γ):Option γ :=
  match o.op with
  | .pick c a b=>(match opd T.zc σ.tm 0 c with
    | some (.pt (.one (.v (.bool t))))=>if t=true then (opd T.zc σ.tm o.type a).bind fun x=>K ⟨put (afh σ.tm c true) o.dst x,σ.bx⟩ else (opd T.zc σ.tm o.type b).bind fun x=>K ⟨put (afh σ.tm c false) o.dst x,σ.bx⟩
    | _=>none)
  | .indexAddr t x i=>(match (opd T.zc σ.tm 0 x).bind baseOf?,(opd T.zc σ.tm 0 i).bind intOf?,T.el t with
    | some ⟨k,n,f⟩,some j,some (_,k',_)=>if k=k' then (if 0≤j then (if j<(n:Int) then K ⟨put σ.tm o.dst (.pt (.one (f j.toNat))),σ.bx⟩ else none) else none) else none
    | _,_,_=>none)
  | .slice t x lo hi mx=>(match (opd T.zc σ.tm 0 x).bind slOf?,T.el t,abV T σ.tm lo,abV T σ.tm hi,abV T σ.tm mx with
    | some ⟨k,xs⟩,some (_,k',_),some l,some h,some m=>if k=k' then slC (xs.length:Int) l h m (K ⟨put σ.tm o.dst (.pt (.one (.sl k (slL xs l h)))),σ.bx⟩) else none
    | _,_,_,_,_=>none)
  | .makeSlice t l c=>(match o.dst with
    | some d=>mkK T σ t l c d K
    | none=>none)
  | .binOp op t x y _=>(match opd T.zc σ.tm 0 x,opd T.zc σ.tm 0 y with
    | some (.pt (.one (.v u))),some (.pt (.one (.v v)))=>agd T t op u v fun r=>K ⟨put σ.tm o.dst (.pt (.one (.v r))),σ.bx⟩
    | _,_=>(step T mv l σ o).bind K)
  | .call c=>(match o.dst with
    | some d=>if Call.xH c then wD T σ c d K else (step T mv l σ o).bind K
    | none=>(step T mv l σ o).bind K)
  | _=>(step T mv l σ o).bind K
theorem oV {zc:TypeId→Option (List Cell)} {tm:List AV} {c:Operand} {t:Bool} (h:opd zc tm 0 c=some (.pt (.one (.v (.bool t))))):afh tm c t=tm:=by
  cases c with
  | tmp i =>
    obtain ⟨x,hx,he⟩:=Option.map_eq_some_iff.mp h;refine set_self ?_;rw [hx];cases x with
    | pt p =>
      cases p with
      | one c=>cases c <;> first | (cases he;rfl) | cases he
      | agg cs=>cases he
    | tup ps=>cases he
  | const=>rfl
  | func=>rfl
  | global=>rfl
theorem aeg {T:Tb} {t:TypeId} {op:BinOp} {u v:Value} {K:Value→Option γ}:agd T t op u v K=(zT T t op u v).bind K:=by
  unfold agd;split
  · split
    · rename_i k a k' b
      simp only [zT,adn];split
      · split <;> rfl
      · rfl
    · rename_i h
      cases u <;> cases v <;> first | rfl | exact (h _ _ _ _ rfl rfl).elim | (simp [zT])
  · split
    · rename_i k a k' b
      simp only [zT,adn];split
      · split <;> rfl
      · rfl
    · rename_i h
      cases u <;> cases v <;> first | rfl | exact (h _ _ _ _ rfl rfl).elim | (simp [zT])
  · split
    · rename_i k a k' b
      simp only [zT];split <;> rfl
    · rfl
  · rfl
theorem zD {T:Tb} {σ:St} {c:Call} {d:Nat} {K:St→Option γ}:wD T σ c d K=(ko T σ c d).bind K:=by
  unfold wD ko;split
  · rename_i s x t t' h1 h2 h3
    simp only [h1,h2,h3];by_cases ht:t=t'
    · rw [if_pos ht,if_pos ht]
      unfold af0;split
      · rename_i q1 q2 q3
        simp only [q1,q2,q3];split
        · split
          · split <;> rfl
          · rfl
        · rfl
      · rename_i hno
        split
        · exact (hno _ _ _ _ _ _ _ _ _ ‹_› ‹_› ‹_›).elim
        · rfl
    · rw [if_neg ht,if_neg ht];rfl
  · rename_i hno
    split
    · exact (hno _ _ _ _ ‹_› ‹_› ‹_›).elim
    · rfl
theorem xV {T:Tb} {mv:Nat→Bool} {l:Nat} {σ:St} {o:Oper} {K:St→Option γ}:acH T mv l σ o K=(step T mv l σ o).bind K:=by
  unfold acH;split
  · rename_i c a b ho
    have hst:step T mv l σ o=quiet T σ o:=by unfold step;rw [ho]
    rw [hst];unfold quiet val;rw [ho];simp only;split
    · rename_i t hc
      simp only [hc];cases t with
      | true=>rw [if_pos rfl,if_pos rfl,oV hc];cases opd T.zc σ.tm o.type a <;> rfl
      | false=>rw [if_neg (by simp),if_neg (by simp),oV hc];cases opd T.zc σ.tm o.type b <;> rfl
    · rename_i hno
      split
      · exact (hno _ ‹_›).elim
      · rfl
  · rename_i t x i ho
    have hst:step T mv l σ o=quiet T σ o:=by unfold step;rw [ho]
    rw [hst];unfold quiet val;rw [ho];simp only;split
    · rename_i q1 q2 q3
      simp only [q1,q2,q3];split
      · split
        · split <;> rfl
        · rfl
      · rfl
    · rename_i hno
      split
      · exact (hno _ _ _ _ _ _ _ ‹_› ‹_› ‹_›).elim
      · rfl
  · rename_i t x lo hi mx ho
    have hst:step T mv l σ o=quiet T σ o:=by unfold step;rw [ho]
    rw [hst];unfold quiet val;rw [ho];simp only [zV];split
    · rename_i q1 q2 q3 q4 q5
      simp only [q1,q2,q3,q4,q5];split
      · rw [Option.bind_map,acG]
        rfl
      · rfl
    · rename_i hno
      split
      · exact (hno _ _ _ _ _ _ _ _ ‹_› ‹_› ‹_› ‹_› ‹_›).elim
      · rfl
  · rename_i t l' c ho
    have hst:step T mv l σ o=lD T l σ o:=by unfold step;rw [ho]
    rw [hst];unfold lD;rw [ho];cases o.dst with
    | none=>rfl
    | some d=>exact afi
  · rename_i op t x y ty ho
    split
    · rename_i u v q1 q2
      have hst:step T mv l σ o=quiet T σ o:=by unfold step;rw [ho]
      rw [hst];unfold quiet val;rw [ho];simp only [q1,q2];rw [aeg];cases zT T t op u v <;> rfl
    · rfl
  · rename_i c ho
    split
    · rename_i d hd
      split
      · rename_i happ
        have hst:step T mv l σ o=ko T σ c d:=by unfold step;rw [ho,hd];simp [happ]
        rw [hst,zD]
      · rfl
    · rfl
  · rfl
def afj (E:oM) (jk:lQ γ) (σ:St) (c:Call) (d:Option Nat) (f:Cell) (K:St→Option γ):Option γ :=
  (gY E.T σ.tm c.args.toList c.argTypes.toList).bind fun ys=>jk f ys σ.bx fun r bx=>K ⟨put σ.tm d r,bx⟩
def agf (E:oM) (jk:lQ γ) (σ:St) (c:Call) (d:Option Nat) (f:Cell) (K:St→Option γ):Option γ :=
  (gY E.T σ.tm c.args.toList c.argTypes.toList).bind fun ys=>jk f ys σ.bx fun r bx=>if r.refs σ.bx.length=true then K ⟨put σ.tm d r,σ.bx++bx.drop σ.bx.length⟩ else none
def aeh (E:oM) (jk:lQ γ) (σ:St) (c:Call) (d:Option Nat) (f:Cell) (K:St→Option γ):Option γ:=match f with
  | .fn q []=>(match E.sm q with
    | some s=>(gY E.T σ.tm c.args.toList c.argTypes.toList).bind fun ys=>s.k ys fun r=>K ⟨put σ.tm d r,σ.bx⟩
    | none=>afj E jk σ c d f K)
  | f=>afj E jk σ c d f K
def aei (E:oM) (σ:St) (c:Call) (d:Option Nat) (f:Cell) (K:St→Option γ):Option γ:=match f with
  | .fn q []=>(E.sm q).bind fun s=>(gY E.T σ.tm c.args.toList c.argTypes.toList).bind fun ys=>s.k ys fun r=>K ⟨put σ.tm d r,σ.bx⟩
  | _=>none
def qN (E:oM) (mv:Nat→Bool) (jk:lQ γ) (l:Nat) (σ:St) (o:Oper) (K:St→Option γ):Option γ :=
  match o.op with
  | .call c=>(match c.callee with
    | .value (.func f)=>(match E.sm f with
      | some s=>(gY E.T σ.tm c.args.toList c.argTypes.toList).bind fun ys=>s.k ys fun r=>K ⟨put σ.tm o.dst r,σ.bx⟩
      | none=>match E.nw f with
        | true=>agf E jk σ c o.dst (.fn f []) K
        | false=>afj E jk σ c o.dst (.fn f []) K)
    | .value (.tmp t)=>(match mv (t+100000) with
      | true=>((σ.tm[t]?).bind cellOf?).bind fun f=>aei E σ c o.dst f K
      | false=>((σ.tm[t]?).bind cellOf?).bind fun f=>aeh E jk σ c o.dst f K)
    | .value _=>none
    | _=>acH E.T mv l σ o K)
  | _=>acH E.T mv l σ o K
def oN (c:ji) (ck:lQ γ):Prop:=∀ f ys bx K x,ck f ys bx K=some x→((c f ys bx).bind fun r=>K r.1 r.2)=some x
variable {E:oM} {fns:FuncId→Option Func} {mv:Nat→Bool} {call:ji} {jk:lQ γ} {σ:St} {o:Oper} {ops:Array Oper}
theorem wE (h:oN call jk) {c:Call} {d:Option Nat} {f:Cell} {K:St→Option γ} {x:γ} (hx:afj E jk σ c d f K=some x):(kX (E.env fns) call σ c d f).bind K=some x:=by
  unfold afj at hx;unfold kX;show ((gY E.T σ.tm c.args.toList c.argTypes.toList).bind _).bind K=_;cases hy:gY E.T σ.tm c.args.toList c.argTypes.toList with
  | none=>rw [hy] at hx;cases hx
  | some ys =>
    rw [hy] at hx;simp only [Option.bind_some] at hx ⊢;have:=h _ _ _ _ _ hx;cases hc:call f ys σ.bx with
    | none=>rw [hc] at this;cases this
    | some r=>rw [hc] at this;exact this
theorem aej (h:oN call jk) {c:Call} {d:Option Nat} {f:Cell} {K:St→Option γ} {x:γ} (hx:agf E jk σ c d f K=some x):(mO (E.env fns) call σ c d f).bind K=some x:=by
  unfold agf at hx;unfold mO;show ((gY E.T σ.tm c.args.toList c.argTypes.toList).bind _).bind K=_;cases hy:gY E.T σ.tm c.args.toList c.argTypes.toList with
  | none=>rw [hy] at hx;cases hx
  | some ys =>
    rw [hy] at hx;simp only [Option.bind_some] at hx ⊢;have:=h _ _ _ _ _ hx;cases hc:call f ys σ.bx with
    | none=>rw [hc] at this;cases this
    | some r =>
      rw [hc] at this;simp only [Option.bind_some] at this ⊢;split at this
      · rename_i hr;rw [if_pos hr];exact this
      · cases this
theorem acI (h:oN call jk) {c:Call} {d:Option Nat} {f:Cell} {K:St→Option γ} {x:γ} (hx:aeh E jk σ c d f K=some x):(ku (E.env fns) call σ c d f).bind K=some x:=by
  unfold aeh at hx;unfold ku sumOf;split at hx
  · rename_i q
    cases hs:E.sm q with
    | some m =>
      have hs2:(E.env fns).sum q=some m.s:=by show (E.sm q).map Sm.s=_;rw [hs];rfl
      simp only [hs] at hx;simp only [hs2,jP];show Option.bind (Option.map _ ((gY E.T σ.tm c.args.toList c.argTypes.toList).bind m.s)) K=_;cases hy:gY E.T σ.tm c.args.toList c.argTypes.toList with
      | none=>rw [hy] at hx;cases hx
      | some ys =>
        rw [hy] at hx;simp only [Option.bind_some] at hx ⊢;rw [Sm.k_eq] at hx;cases hm:m.s ys with
        | none=>rw [hm] at hx;cases hx
        | some r=>rw [hm] at hx;exact hx
    | none =>
      have hs2:(E.env fns).sum q=none:=by show (E.sm q).map Sm.s=_;rw [hs];rfl
      simp only [hs] at hx;simp only [hs2];exact wE h hx
  · rename_i hno
    split
    · rename_i s hs
      split at hs
      · rename_i q;exact (hno q rfl).elim
      · cases hs
    · exact wE h hx
theorem acJ {c:Call} {d:Option Nat} {f:Cell} {K:St→Option γ} {x:γ} (hx:aei E σ c d f K=some x):((sumOf (E.env fns) f).bind fun s=>jP (E.env fns) σ c d s).bind K=some x:=by
  unfold aei at hx;split at hx
  case h_2=>cases hx
  rename_i q
  cases hs:E.sm q with
  | none=>rw [hs] at hx;cases hx
  | some m =>
    have hs2:(E.env fns).sum q=some m.s:=by show (E.sm q).map Sm.s=_;rw [hs];rfl
    simp only [hs,Option.bind_some] at hx;simp only [sumOf,hs2,Option.bind_some,jP];show Option.bind (Option.map _ ((gY E.T σ.tm c.args.toList c.argTypes.toList).bind m.s)) K=_;cases hy:gY E.T σ.tm c.args.toList c.argTypes.toList with
    | none=>rw [hy] at hx;cases hx
    | some ys =>
      rw [hy] at hx;simp only [Option.bind_some] at hx ⊢;rw [Sm.k_eq] at hx;cases hm:m.s ys with
      | none=>rw [hm] at hx;cases hx
      | some r=>rw [hm] at hx;exact hx
theorem sG (h:oN call jk) {l:Nat} {K:St→Option γ} {x:γ} (hx:qN E mv jk l σ o K=some x):(exec (E.env fns) mv call l σ o).bind K=some x:=by
  obtain ⟨dst,op,ty,pos,after,guard⟩:=o;cases op with
  | call c =>
    obtain ⟨aa,args,ats⟩:=c;cases aa with
    | value f =>
      cases f with
      | func f =>
        cases hs:E.sm f with
        | some m =>
          have hs2:(E.env fns).sum f=some m.s:=by show (E.sm f).map Sm.s=_;rw [hs];rfl
          simp only [qN,exec,hs,hs2,jP] at hx ⊢;show Option.bind (Option.map _ ((gY E.T σ.tm args.toList ats.toList).bind m.s)) K=_;cases hy:gY E.T σ.tm args.toList ats.toList with
          | none=>rw [hy] at hx;cases hx
          | some ys =>
            rw [hy] at hx;simp only [Option.bind_some] at hx ⊢;rw [Sm.k_eq] at hx;cases hm:m.s ys with
            | none=>rw [hm] at hx;cases hx
            | some r=>rw [hm] at hx;exact hx
        | none =>
          have hs2:(E.env fns).sum f=none:=by show (E.sm f).map Sm.s=_;rw [hs];rfl
          have hw:(E.env fns).nw f=E.nw f:=rfl;cases hn:E.nw f with
          | true =>
            simp only [qN,exec,hs,hs2,hw,hn] at hx ⊢;exact aej h hx
          | false =>
            simp only [qN,exec,hs,hs2,hw,hn] at hx ⊢;exact wE h hx
      | tmp t =>
        simp only [qN,exec] at hx ⊢;cases hm:mv (t+100000) with
        | true =>
          simp only [hm] at hx ⊢;cases hc:(σ.tm[t]?).bind cellOf? with
          | none=>rw [hc] at hx;cases hx
          | some f=>rw [hc] at hx;exact acJ hx
        | false =>
          simp only [hm] at hx ⊢;cases hc:(σ.tm[t]?).bind cellOf? with
          | none=>rw [hc] at hx;cases hx
          | some f=>rw [hc] at hx;exact acI h hx
      | const=>cases hx
      | global=>cases hx
    | _=>simp only [qN,exec] at hx ⊢;rw [xV] at hx;exact hx
  | _=>simp only [qN,exec] at hx ⊢;rw [xV] at hx;exact hx
end
end
end Go.Proofs.YtcomnjodjijcmaaGreat.M
namespace Go.Proofs.YtcomnjodjijcmaaGreat.M
noncomputable section
set_option linter.unusedVariables false
set_option linter.unusedSimpArgs false
open Go.RowKit Go.Proofs.YtcomnjodjijcmaaGreatW.dz Go.Proofs.YtcomnjodjijcmaaGreatW.dX
inductive Lf where
  | i (n:Int) | b (b:Bool) | l (t:Ty) (xs:List t.T) | e (t:Ty) (x:t.T) | n (n:Nat) | m (xs:List (Int × Int))
def oO:List UInt8→List UInt8→Bool
  | [],[]=>true
  | a :: r,b :: s=>match Nat.beq a.toNat b.toNat with
    | true=>oO r s
    | false=>false
  | _,_=>false
theorem qo:∀ {a b:List UInt8},oO a b=true→a=b
  | [],[],_=>rfl
  | [],_ :: _,h=>by cases h
  | _ :: _,[],h=>by cases h
  | a :: r,b :: s,h=>by
    unfold oO at h;split at h
    · rename_i h1
      rw [UInt8.toNat_inj.1 (Nat.eq_of_beq_eq_true h1),qo h]
    · cases h
inductive PC where
  | i (k:IntKind) | b | s (t:Ty) | o (e:TypeId) (t:Ty) | e (t:Ty) (off:Nat)
  | li (k:IntKind) (n:Int) | lb (b:Bool) | ls (t:Ty) | lo (e:TypeId) (t:Ty) | nf | bp (l off:Nat) | fn (f:FuncId) (bs:List Nat) | yl (l:Nat) | mu (e:TypeId) (t:Ty) | lm (e:TypeId) (t:Ty) | ar (l:Nat) (t:Ty) | mh (l:Nat) | lf (e:TypeId) (xs:List (FuncId × FuncId)) | st (q:List UInt8) | ud | no
def PC.rd:PC→Cell→Option (List Lf)
  | .i k,.v (.int k' n)=>if k'=k then some [.i n] else none
  | .b,.v (.bool z)=>some [.b z]
  | .s t,.sl t' xs=>if t'=t then some [.l t' xs] else none
  | .o q t,.ow q' t' xs=>if q'=q∧t'=t then some [.l t' xs] else none
  | .e t off,.ep t' x off'=>if t'=t∧off'=off then some [.e t' x] else none
  | .li k n,.v (.int k' n')=>if k'=k∧n'=n then some [] else none
  | .lb z,.v (.bool z')=>if z'=z then some [] else none
  | .ls t,.sl t' []=>if t'=t then some [] else none
  | .lo q t,.ow q' t' []=>if q'=q∧t'=t then some [] else none
  | .nf,.v .nilFunc=>some []
  | .bp l off,.bp l' off'=>if l'=l∧off'=off then some [] else none
  | .fn f bs,.fn f' bs'=>if f'=f∧bs'=bs then some [] else none
  | .yl l,.yl l'=>if l'=l then some [] else none
  | .mu q t,.mu q' t' xs=>if q'=q∧t'=t then some [.l t' xs] else none
  | .lm q t,.mu q' t' []=>if q'=q∧t'=t then some [] else none
  | .ar l t,.ar l' t' n=>if l'=l∧t'=t then some [.n n] else none
  | .mh l,.mh l'=>if l'=l then some [] else none
  | .lf q xs,.ow q' .ff xs'=>if q'=q∧xs'=xs then some [] else none
  | .st q,.v (.string x)=>if oO x.data.toList q=true then some [] else none
  | .ud,.ud=>some []
  | .no,.no=>some []
  | _,_=>none
def PC.mk:PC→List Lf→Cell × List Lf
  | .i k,.i n :: r=>(.v (.int k n),r)
  | .b,.b z :: r=>(.v (.bool z),r)
  | .s _,.l t xs :: r=>(.sl t xs,r)
  | .o q _,.l t xs :: r=>(.ow q t xs,r)
  | .e _ off,.e t x :: r=>(.ep t x off,r)
  | .li k n,r=>(.v (.int k n),r)
  | .lb z,r=>(.v (.bool z),r)
  | .ls t,r=>(.sl t [],r)
  | .lo q t,r=>(.ow q t [],r)
  | .nf,r=>(.v .nilFunc,r)
  | .bp l off,r=>(.bp l off,r)
  | .fn f bs,r=>(.fn f bs,r)
  | .yl l,r=>(.yl l,r)
  | .mu q _,.l t xs :: r=>(.mu q t xs,r)
  | .lm q t,r=>(.mu q t [],r)
  | .ar l t,.n n :: r=>(.ar l t n,r)
  | .mh l,r=>(.mh l,r)
  | .lf q xs,r=>(.ow q .ff xs,r)
  | .st q,r=>(.v (.string ⟨q.toArray⟩),r)
  | .ud,r=>(.ud,r)
  | _,r=>(.no,r)
theorem PC.rd_mk {p:PC} {c:Cell} {ls r:List Lf} (h:p.rd c=some ls):p.mk (ls++r)=(c,r):=by
  unfold PC.rd at h;split at h;all_goals first
    | (cases h;done)
    | (split at h <;> first
        | (cases h;done)
        | (cases h;rename_i hh;first
            | (obtain ⟨rfl,rfl⟩:=hh;rfl)
            | (subst hh;rfl)
            | (have:=qo hh;subst this;rfl)))
    | (cases h;rfl)
def afk:List PC→List Cell→Option (List Lf)
  | [],[]=>some []
  | p :: ps,c :: cs=>match p.rd c,afk ps cs with
    | some a,some b=>some (a++b)
    | _,_=>none
  | _,_=>none
def adt:List PC→List Lf→List Cell × List Lf
  | [],r=>([],r)
  | p :: ps,r=>((p.mk r).1 :: (adt ps (p.mk r).2).1,(adt ps (p.mk r).2).2)
theorem wF:∀ {ps:List PC} {cs:List Cell} {ls r:List Lf},afk ps cs=some ls→adt ps (ls++r)=(cs,r)
  | [],[],ls,r,h=>by cases h;rfl
  | [],_ :: _,ls,r,h=>by cases h
  | _ :: _,[],ls,r,h=>by cases h
  | p :: ps,c :: cs,ls,r,h=>by
    simp only [afk] at h;split at h
    case h_2=>cases h
    rename_i a b h1 h2
    cases h
    simp only [adt];rw [List.append_assoc,PC.rd_mk h1,wF h2]
inductive PV where
  | one (p:PC) | agg (ps:List PC) | tup (ps:List PC)
def PV.rd:PV→AV→Option (List Lf)
  | .one p,.pt (.one c)=>p.rd c
  | .agg ps,.pt (.agg cs)=>afk ps cs
  | _,_=>none
def PV.mk:PV→List Lf→AV × List Lf
  | .one p,r=>(.pt (.one (p.mk r).1),(p.mk r).2)
  | .agg ps,r=>(.pt (.agg (adt ps r).1),(adt ps r).2)
  | .tup _,r=>(.pt (.one .no),r)
theorem PV.rd_mk {p:PV} {x:AV} {ls r:List Lf} (h:p.rd x=some ls):p.mk (ls++r)=(x,r):=by
  unfold PV.rd at h;split at h
  · simp only [PV.mk,PC.rd_mk h]
  · simp only [PV.mk,wF h]
  · cases h
def af3:List PV→List AV→Option (List Lf)
  | [],[]=>some []
  | p :: ps,x :: xs=>match p.rd x,af3 ps xs with
    | some a,some b=>some (a++b)
    | _,_=>none
  | _,_=>none
def aeX:List PV→List Lf→List AV × List Lf
  | [],r=>([],r)
  | p :: ps,r=>((p.mk r).1 :: (aeX ps (p.mk r).2).1,(aeX ps (p.mk r).2).2)
theorem aaP:∀ {ps:List PV} {xs:List AV} {ls r:List Lf},af3 ps xs=some ls→aeX ps (ls++r)=(xs,r)
  | [],[],ls,r,h=>by cases h;rfl
  | [],_ :: _,ls,r,h=>by cases h
  | _ :: _,[],ls,r,h=>by cases h
  | p :: ps,c :: cs,ls,r,h=>by
    simp only [af3] at h;split at h
    case h_2=>cases h
    rename_i a b h1 h2
    cases h
    simp only [aeX];rw [List.append_assoc,PV.rd_mk h1,aaP h2]
inductive PB where
  | box (t:TypeId) (ps:List PC) | no | lp (e:dQ) | lpb | arr (e:TypeId) (t:Ty) | mi | lmi | gone
def PB.rd:PB→Bx→Option (List Lf)
  | .box t ps,.box t' cs=>if t'=t then afk ps cs else none
  | .no,.no=>some []
  | .lp e,.lp e'=>if e'=e then some [] else none
  | .lpb,.lpb=>some []
  | .arr e t,.arr e' t' xs=>if e'=e∧t'=t then some [.l t' xs] else none
  | .mi,.mi xs=>some [.m xs]
  | .lmi,.mi []=>some []
  | .gone,.gone=>some []
  | _,_=>none
def PB.mk:PB→List Lf→Bx × List Lf
  | .box t ps,r=>(.box t (adt ps r).1,(adt ps r).2)
  | .no,r=>(.no,r)
  | .lp e,r=>(.lp e,r)
  | .lpb,r=>(.lpb,r)
  | .arr e _,.l t xs :: r=>(.arr e t xs,r)
  | .mi,.m xs :: r=>(.mi xs,r)
  | .lmi,r=>(.mi [],r)
  | .gone,r=>(.gone,r)
  | _,r=>(.no,r)
theorem PB.rd_mk {p:PB} {x:Bx} {ls r:List Lf} (h:p.rd x=some ls):p.mk (ls++r)=(x,r):=by
  unfold PB.rd at h;split at h
  · split at h
    · rename_i e;subst e;simp only [PB.mk,wF h]
    · cases h
  · cases h;rfl
  · split at h
    · rename_i e;subst e;cases h;rfl
    · cases h
  · cases h;rfl
  · split at h
    · rename_i e;obtain ⟨rfl,rfl⟩:=e;cases h;rfl
    · cases h
  · cases h;rfl
  · cases h;rfl
  · cases h;rfl
  · cases h
def afl:List PB→List Bx→Option (List Lf)
  | [],[]=>some []
  | p :: ps,x :: xs=>match p.rd x,afl ps xs with
    | some a,some b=>some (a++b)
    | _,_=>none
  | _,_=>none
def zX:List PB→List Lf→List Bx × List Lf
  | [],r=>([],r)
  | p :: ps,r=>((p.mk r).1 :: (zX ps (p.mk r).2).1,(zX ps (p.mk r).2).2)
theorem wG:∀ {ps:List PB} {xs:List Bx} {ls r:List Lf},afl ps xs=some ls→zX ps (ls++r)=(xs,r)
  | [],[],ls,r,h=>by cases h;rfl
  | [],_ :: _,ls,r,h=>by cases h
  | _ :: _,[],ls,r,h=>by cases h
  | p :: ps,c :: cs,ls,r,h=>by
    simp only [afl] at h;split at h
    case h_2=>cases h
    rename_i a b h1 h2
    cases h
    simp only [zX];rw [List.append_assoc,PB.rd_mk h1,wG h2]
structure PS where
  tm:List PV
  bx:List PB
def PS.rd (p:PS) (σ:St):Option (List Lf):=match af3 p.tm σ.tm,afl p.bx σ.bx with
  | some a,some b=>some (a++b)
  | _,_=>none
def PS.mk' (p:PS) (r:List Lf):St:=⟨(aeX p.tm r).1,(zX p.bx (aeX p.tm r).2).1⟩
theorem PS.rd_mk {p:PS} {σ:St} {ls:List Lf} (h:p.rd σ=some ls):p.mk' ls=σ:=by
  unfold PS.rd at h;split at h
  case h_2=>cases h
  rename_i a b h1 h2
  cases h
  unfold PS.mk';rw [aaP h1];have:=wG (r:=[]) h2;rw [List.append_nil] at this;rw [this]
end
end Go.Proofs.YtcomnjodjijcmaaGreat.M
namespace Go.Proofs.YtcomnjodjijcmaaGreat.M
noncomputable section
set_option linter.unusedVariables false
set_option linter.unusedSimpArgs false
open Go.RowKit Go.Proofs.YtcomnjodjijcmaaGreatW.dz Go.Proofs.YtcomnjodjijcmaaGreatW.dX
section
variable {γ:Type}
def acK (E:oM) (mv:Nat→Bool) (jk:lQ γ) (ops:Array Oper) (l0 i:Nat) (σ:St) (K:St→Option γ):Option γ :=
  match ops[i]? with
  | none=>none
  | some o=>match o.guard with
    | none=>qN E mv jk (mI ops l0 i) σ o K
    | some (_,w)=>match acv ops o with
      | none=>none
      | some d=>match σ.tm[d]? with
        | some (.pt (.one (.v (.bool b))))=>if b=true then (match w with
            | true=>qN E mv jk (mI ops l0 i) ⟨σ.tm.set d (mq true),σ.bx⟩ o K
            | false=>K (skipped ⟨σ.tm.set d (mq true),σ.bx⟩ o)) else (match w with
            | true=>K (skipped ⟨σ.tm.set d (mq false),σ.bx⟩ o)
            | false=>qN E mv jk (mI ops l0 i) ⟨σ.tm.set d (mq false),σ.bx⟩ o K)
        | some (.pt (.one .ud))=>K (skipped σ o)
        | _=>none
def aek (E:oM) (mv:Nat→Bool) (jk:lQ γ) (ops:Array Oper) (l0:Nat):List Nat→St→(St→Option γ)→Option γ
  | [],σ,K=>K σ
  | i :: r,σ,K=>acK E mv jk ops l0 i σ fun σ'=>aek E mv jk ops l0 r σ' K
def agh (E:oM) (mv:Nat→Bool) (jk:lQ γ) (ops:Array Oper) (σ:St) (K:St→Option γ):Option γ :=
  aek E mv jk ops σ.bx.length (List.range ops.size) (reserve σ (nX ops)) K
variable {E:oM} {fns:FuncId→Option Func} {mv:Nat→Bool} {call:ji} {jk:lQ γ} {ops:Array Oper} {l0:Nat}
theorem acL (h:oN call jk) {i:Nat} {σ:St} {K K':St→Option γ} {x:γ} (hK:∀ σ,K σ=some x→K' σ=some x) (hx:acK E mv jk ops l0 i σ K=some x):(opAt (E.env fns) mv call ops l0 i σ).bind K'=some x:=by
  have fin:∀ o:Option St,o.bind K=some x→o.bind K'=some x:=fun o ho=>by
    cases o with
    | none=>cases ho
    | some r=>exact hK r ho
  unfold acK at hx;unfold opAt;cases ho:ops[i]? with
  | none=>rw [ho] at hx;cases hx
  | some o =>
    simp only [ho] at hx;simp only [Option.bind_some];unfold rD gate;cases hg:o.guard with
    | none =>
      simp only [hg] at hx;simp only [Option.bind_some,if_true];exact fin _ (sG h hx)
    | some jw =>
      obtain ⟨j,w⟩:=jw;simp only [hg] at hx;simp only;cases hd:acv ops o with
      | none=>rw [hd] at hx;cases hx
      | some d =>
        simp only [hd] at hx;simp only [Option.bind_some];cases hy:σ.tm[d]? with
        | none=>rw [hy] at hx;cases hx
        | some y =>
          simp only [hy] at hx;simp only [Option.map_some];cases y with
          | tup ps=>cases hx
          | pt p =>
            cases p with
            | agg cs=>cases hx
            | one c =>
              cases c with
              | ud=>exact hK _ hx
              | v u =>
                cases u with
                | bool b =>
                  have hs:⟨σ.tm.set d (mq b),σ.bx⟩=σ:=by
                    obtain ⟨tm,bx⟩:=σ;exact congrArg (fun t=>St.mk t bx) (set_self hy)
                  cases b <;> cases w
                  all_goals (simp only [AV.un,Pt.un,Cell.un,Bool.false_eq_true,if_false,if_true] at hx ⊢;rw [hs] at hx)
                  · exact fin _ (sG h hx)
                  · exact hK _ hx
                  · exact hK _ hx
                  · exact fin _ (sG h hx)
                | _=>cases hx
              | _=>cases hx
theorem xW (h:oN call jk) {K:St→Option γ} {x:γ}:∀ (is:List Nat) (σ:St),aek E mv jk ops l0 is σ K=some x→(acw (E.env fns) mv call ops l0 is σ).bind K=some x
  | [],σ,hx=>hx
  | i :: r,σ,hx=>by
    have hx:acK E mv jk ops l0 i σ _=some x:=hx;have:=acL (fns:=fns) (K':=fun σ'=>(acw (E.env fns) mv call ops l0 r σ').bind K) h (fun σ'=>xW h r σ') hx;show ((opAt (E.env fns) mv call ops l0 i σ).bind _).bind K=_;cases ho:opAt (E.env fns) mv call ops l0 i σ with
    | none=>rw [ho] at this;cases this
    | some σ'=>rw [ho] at this;exact this
theorem ael (h:oN call jk) {draw:Bool} (hok:(!draw || acz (E.env fns) mv ops)=true) {σ:St} {K:St→Option γ} {x:γ} (hx:agh E mv jk ops σ K=some x):(adp (E.env fns) mv call ops draw σ).bind K=some x:=by
  unfold agh at hx;unfold adp;rw [if_pos hok];exact xW h _ _ hx
def aaQ (l:Nat) (ps:List Nat) (tm:List AV) (RA RB:St→(dQ→St→Option γ)→Option γ):afg γ:=fun ys bx K =>
  match bx[l]? with
  | some (.lp .normal)=>if ys.length=ps.length then RA ⟨lN (tm.map AV.un) ps ys,bx⟩ (fun e σ1=>match e with
    | .normal=>(match σ1.bx[l]? with
      | some (.lp .normal)=>RB ⟨σ1.tm,σ1.bx.set l .lpb⟩ (fun e σ2=>match σ2.bx[l]? with
        | some .lpb=>K (mq (decide (e=.normal))) ((sw bx.length σ2.bx).set l (.lp e))
        | _=>none)
      | _=>none)
    | _=>none) else none
  | _=>none
def ahe (L:Nat) (tm:List AV) (K:dQ→St→Option γ):AV→List Bx→Option γ:=fun _ aa=>match aa[L]? with
  | some (.lp e)=>K e ⟨tm,sw L aa⟩
  | _=>none
def ahf (R:St→Option γ) (K:dQ→St→Option γ):dQ→St→Option γ:=fun e σ=>match e with
  | .normal=>R σ
  | e=>K e σ
def ahR (id:Nat) (K:dQ→St→Option γ):dQ→St→Option γ:=fun e σ=>K (if e=.exit id then .normal else e) σ
def ahS (K:dQ→St→Option γ):dQ→St→Option γ:=fun e σ=>match e with
  | .goto _=>none
  | e=>K e σ
abbrev LpK (γ:Type):=HdK γ→Option Nat→Nat→St→(dQ→St→Option γ)→Option γ
abbrev YdK (γ:Type):=(AV→List Bx→Option γ)→AV→List Bx→Option γ
structure adu (γ:Type) where
  an:Ann
  lp:Nat→Option (LpK γ)
  yd:Nat→Option (YdK γ)
def abX (T:YdK γ):Prop:=∀ K x bx v,T K x bx=some v→K x bx=some v
def ydK (yd:Nat→Option (YdK γ)) (l:Nat) (K:AV→List Bx→Option γ):AV→List Bx→Option γ:=match yd l with
  | some T=>T K
  | none=>K
theorem afm {yd:Nat→Option (YdK γ)} (h:∀ l T,yd l=some T→abX T) {l:Nat} {K:AV→List Bx→Option γ} {x:AV} {bx:List Bx} {v:γ} (hx:ydK yd l K x bx=some v):K x bx=some v:=by
  unfold ydK at hx;cases hT:yd l with
  | some T=>simp only [hT] at hx;exact h l T hT K x bx v hx
  | none=>simp only [hT] at hx;exact hx
def agi (xs:Option (List Nat)) (n:Nat) (K:dQ→St→Option γ):dQ→St→Option γ:=fun e σ=>K e (aeV xs n σ)
def acM (F:Nat→St→(dQ→St→Option γ)→Option γ) (ds xs:Option (List Nat)) (n:Nat):Nat→St→(dQ→St→Option γ)→Option γ
  | 0,_,_=>none
  | k+1,σ,K=>F k σ (ahf (fun σ'=>acM F ds xs n k (aeV ds n σ') K) (agi xs n K))
def aaR (Y:HdK γ) (L:Nat) (h:afg γ):HdK γ:=fun q=>if q=L then some h else Y q
def acN (ks:Option (List Nat)) (K:dQ→St→Option γ):dQ→St→Option γ:=fun e σ=>K e (zw ks σ)
def kP (Ek:Nat→oM) (A:adu γ) (fF:HdK γ→Nat→lQ γ) (Y:HdK γ) (rl:Option Nat):Code→Nat→Nat→St→(dQ→St→Option γ)→Option γ
  | .skip,_,_,σ,K=>K .normal σ
  | .label _,_,_,σ,K=>K .normal σ
  | .region id ops _,k,_,σ,K=>(ghL (ghO A.an id ops).1 ⟨kill (A.an.rk id) σ.tm,σ.bx⟩).bind fun σ1=>agh (Ek k) A.an.mv (fF Y k) ops σ1 fun σ2=>(ghL (ghO A.an id ops).2 σ2).bind (K .normal)
  | .seq x y,k,cur,σ,K=>kP Ek A fF Y rl x k cur σ (ahf (fun σ'=>match A.lp (jn y) with
    | some h=>h Y rl k ⟨kill (A.an.lk (jn y)) σ'.tm,σ'.bx⟩ K
    | none=>kP Ek A fF Y rl y k cur ⟨kill (A.an.lk (jn y)) σ'.tm,σ'.bx⟩ (acN (A.an.xk (jn y)) K)) K)
  | .cond c x y,k,cur,σ,K=>match opd (Ek k).T.zc σ.tm 0 c with
    | some (.pt (.one (.v (.bool b))))=>if b=true then kP Ek A fF Y rl x k cur ⟨afh σ.tm c true,σ.bx⟩ K else kP Ek A fF Y rl y k cur ⟨afh σ.tm c false,σ.bx⟩ K
    | _=>none
  | .block id x,k,_,σ,K=>kP Ek A fF Y rl x k id σ (ahR id K)
  | .loop x,k,cur,σ,K=>match A.lp cur with
    | some h=>h Y rl k ⟨kill (A.an.lk cur) σ.tm,σ.bx⟩ K
    | none=>acM (fun k σ K=>kP Ek A fF Y rl x k cur σ K) (A.an.lk cur) (A.an.xk cur) σ.bx.length k ⟨kill (A.an.lk cur) σ.tm,σ.bx⟩ K
  | .rangeFunc f ps x y,k,cur,σ,K=>match opd (Ek k).T.zc σ.tm 0 f with
    | some (.pt (.one (.fn fid bs)))=>if inB rl σ.bx=true then
      fF (aaR Y σ.bx.length (aaQ σ.bx.length ps.toList σ.tm (kP Ek A fF Y (some σ.bx.length) x k cur) (kP Ek A fF Y (some σ.bx.length) y k cur))) k (.fn fid bs) [.pt (.one (.yl σ.bx.length))] (σ.bx++[.lp .normal]) (ahe σ.bx.length σ.tm K) else none
    | _=>none
  | .exit id,_,_,σ,K=>K (.exit id) σ
  | .ret,_,_,σ,K=>K .ret σ
  | .goto l,_,_,σ,K=>K (.goto l) σ
  | .scope x,k,cur,σ,K=>kP Ek A fF Y rl x k cur σ (ahS K)
  | .refuse _,_,_,_,_=>none
def ahT (T:Tb) (rs:List ResultVar) (n:Nat) (K:AV→List Bx→Option γ):dQ→St→Option γ:=fun e σ=>match e with
  | .normal=>(uY T rs σ).bind fun q=>K (kN n (mD q.1) q.2.bx).1 (kN n (mD q.1) q.2.bx).2
  | .ret=>(uY T rs σ).bind fun q=>K (kN n (mD q.1) q.2.bx).1 (kN n (mD q.1) q.2.bx).2
  | _=>none
def aaS (Ek:Nat→oM) (A:adu γ) (fF:HdK γ→Nat→lQ γ) (Y:HdK γ) (k:Nat) (fn:Func) (bs:List Nat) (ys:List AV) (bx:List Bx) (K:AV→List Bx→Option γ):Option γ :=
  match fn.body with
  | some code=>kP Ek A fF Y none code k 0 ⟨qm fn ys bs,bx⟩ (ahT (Ek k).T fn.results.toList bx.length K)
  | none=>none
structure aeY (γ:Type) where
  an:FuncId→Ann
  lp:Nat→FuncId→Nat→Option (LpK γ)
  yd:Nat→FuncId→Nat→Option (YdK γ)
def aeY.at (A:aeY γ) (n:Nat) (f:FuncId):adu γ:=⟨A.an f,A.lp n f,A.yd n f⟩
def vo (Ek:Nat→oM) (fns:FuncId→Option Func) (A:aeY γ):Nat→(Nat→Option (YdK γ))→HdK γ→Nat→lQ γ
  | 0,_,_,_=>fun _ _ _ _=>none
  | n+1,yd,Y,k=>fun c ys bx K=>match c with
    | .yl l=>(Y l).bind fun h=>h ys bx (ydK yd l K)
    | .fn f bs=>match (Ek k).mt f with
      | some m=>(match bs with
        | []=>(match m ys bx with
          | some q=>if q.1=true then K q.2.1 q.2.2 else none
          | none=>none)
        | _ :: _=>none)
      | none=>(fns f).bind fun fn=>aaS Ek (A.at n f) (vo Ek fns A n (A.yd n f)) Y k fn bs ys bx K
    | _=>none
def okC (E:Env) (mv:Nat→Bool):Code→Bool
  | .region _ ops draw => !draw || acz E mv ops
  | .seq x y=>okC E mv x&&okC E mv y
  | .cond _ x y=>okC E mv x&&okC E mv y
  | .block _ x=>okC E mv x
  | .loop x=>okC E mv x
  | .rangeFunc _ _ x y=>okC E mv x&&okC E mv y
  | .scope x=>okC E mv x
  | _=>true
def okF (E:Env) (mv:Nat→Bool) (fn:Func):Bool:=match fn.body with
  | some c=>okC E mv c
  | none=>true
def aaT (h:List AV→List Bx→Option (AV × List Bx)) (hk:afg γ):Prop:=∀ ys bx K x,hk ys bx K=some x→((h ys bx).bind fun r=>K r.1 r.2)=some x
def abY (Y:Hd) (YK:HdK γ):Prop:=∀ q hk,YK q=some hk→∃ h,Y q=some h∧aaT h hk
def sH (F:St→Option (dQ × St)) (FK:St→(dQ→St→Option γ)→Option γ):Prop:=∀ σ K x,FK σ K=some x→((F σ).bind fun r=>K r.1 r.2)=some x
def sI (fF:Hd→Nat→ji) (lS:HdK γ→Nat→lQ γ):Prop:=∀ Y YK k,abY Y YK→oN (fF Y k) (lS YK k)
theorem sJ {F:Nat→St→Option (dQ × St)} {FK:Nat→St→(dQ→St→Option γ)→Option γ} (h:∀ k,sH (F k) (FK k)) {ds xs:Option (List Nat)} {n:Nat}:∀ k,sH (zu F ds xs n k) (acM FK ds xs n k)
  | 0=>fun σ K x hx=>by cases hx
  | k+1=>fun σ K x hx=>by
    have h1:=h k σ _ x hx;show ((F k σ).bind _).bind _=_;cases hF:F k σ with
    | none=>rw [hF] at h1;cases h1
    | some r =>
      rw [hF] at h1;obtain ⟨e,σ'⟩:=r;cases e with
      | normal=>exact sJ h k _ K x h1
      | _=>exact h1
theorem acO {l:Nat} {ps:List Nat} {tm:List AV} {FA FB:St→Option (dQ × St)} {RA RB:St→(dQ→St→Option γ)→Option γ} (hA:sH FA RA) (hB:sH FB RB):aaT (qj l ps tm FA FB) (aaQ l ps tm RA RB):=by
  intro ys bx K x hx;unfold aaQ at hx;unfold qj;cases hb:bx[l]? with
  | none=>simp only [hb] at hx;cases hx
  | some B =>
    simp only [hb] at hx;cases B with
    | lp e =>
      cases e with
      | normal =>
        simp only at hx ⊢;split at hx
        case isFalse=>cases hx
        rename_i hl
        rw [if_pos hl];have h1:=hA _ _ _ hx;cases aa:FA ⟨lN (tm.map AV.un) ps ys,bx⟩ with
        | none=>rw [aa] at h1;cases h1
        | some r =>
          rw [aa] at h1;obtain ⟨e1,σ1⟩:=r;simp only [Option.bind_some] at h1;cases e1 with
          | normal =>
            simp only at h1 ⊢;cases hb1:σ1.bx[l]? with
            | none=>simp only [hb1] at h1;cases h1
            | some B1 =>
              simp only [hb1] at h1;cases B1 with
              | lp e =>
                cases e with
                | normal =>
                  simp only at h1 ⊢;have h2:=hB _ _ _ h1;cases ab:FB ⟨σ1.tm,σ1.bx.set l .lpb⟩ with
                  | none=>rw [ab] at h2;cases h2
                  | some r2 =>
                    rw [ab] at h2;obtain ⟨e2,σ2⟩:=r2;simp only [Option.bind_some] at h2;simp only;cases hb2:σ2.bx[l]? with
                    | none=>simp only [hb2] at h2;cases h2
                    | some B2 =>
                      simp only [hb2] at h2;cases B2 with
                      | lpb=>exact h2
                      | _=>cases h2
                | _=>cases h1
              | _=>cases h1
          | _=>cases h1
      | _=>cases hx
    | _=>cases hx
theorem abY.with {Y:Hd} {YK:HdK γ} (h:abY Y YK) {L:Nat} {f:List AV→List Bx→Option (AV × List Bx)} {fk:afg γ} (hf:aaT f fk):abY (zq Y L f) (aaR YK L fk):=fun q hk hq=>by
  unfold aaR at hq;unfold zq;by_cases e:q=L
  · rw [if_pos e] at hq ⊢
    cases hq
    exact ⟨f,rfl,hf⟩
  · rw [if_neg e] at hq ⊢
    exact h q hk hq
variable {Ek:Nat→oM} {A:adu γ} {fF:Hd→Nat→ji} {lS:HdK γ→Nat→lQ γ}
def wH (Ek:Nat→oM) (fns:FuncId→Option Func) (A:adu γ) (fF:Hd→Nat→ji):Code→Nat→Prop
  | .seq x y,cur=>wH Ek fns A fF x cur∧(match A.lp (jn y) with
    | some h=>∀ Y YK rl k,abY Y YK→sH (fun σ=>(iY (fun k=>(Ek k).env fns) A.an fF Y rl y k cur σ).map fun q=>(q.1,zw (A.an.xk (jn y)) q.2)) (h YK rl k)
    | none=>wH Ek fns A fF y cur)
  | .cond _ x y,cur=>wH Ek fns A fF x cur∧wH Ek fns A fF y cur
  | .block id x,_=>wH Ek fns A fF x id
  | .loop x,cur=>(match A.lp cur with
    | some h=>∀ Y YK rl k,abY Y YK→sH (fun σ=>zu (fun k σ=>iY (fun k=>(Ek k).env fns) A.an fF Y rl x k cur σ) (A.an.lk cur) (A.an.xk cur) σ.bx.length k σ) (h YK rl k)
    | none=>wH Ek fns A fF x cur)
  | .rangeFunc f ps x y,cur=>wH Ek fns A fF x cur∧wH Ek fns A fF y cur
  | .scope x,cur=>wH Ek fns A fF x cur
  | _,_=>True
theorem xX {ks:Option (List Nat)} {o:Option (dQ × St)} {K:dQ→St→Option γ} {z:γ} (h:(o.bind fun r=>acN ks K r.1 r.2)=some z):((o.map fun q=>(q.1,zw ks q.2)).bind fun r=>K r.1 r.2)=some z:=by
  cases o with
  | none=>cases h
  | some q=>exact h
theorem sK (hC:sI fF lS) (x:Code):∀ (cur:Nat),(∀ k,okC ((Ek k).env fns) A.an.mv x=true)→wH Ek fns A fF x cur→∀ (Y:Hd) (YK:HdK γ) (rl:Option Nat) (k:Nat),abY Y YK→sH (iY (fun k=>(Ek k).env fns) A.an fF Y rl x k cur) (kP Ek A lS YK rl x k cur):=by
  induction x with
  | skip=>exact fun cur _ _ Y YK rl k hY σ K z hx=>hx
  | label l=>exact fun cur _ _ Y YK rl k hY σ K z hx=>hx
  | exit id=>exact fun cur _ _ Y YK rl k hY σ K z hx=>hx
  | ret=>exact fun cur _ _ Y YK rl k hY σ K z hx=>hx
  | goto l=>exact fun cur _ _ Y YK rl k hY σ K z hx=>hx
  | refuse w=>exact fun cur _ _ Y YK rl k hY σ K z hx=>by cases hx
  | region id ops draw =>
    intro cur hok hlp Y YK rl k hY σ K z hx;obtain ⟨σ1,hg1,hx⟩:=Option.bind_eq_some_iff.mp (show (ghL (ghO A.an id ops).1 ⟨kill (A.an.rk id) σ.tm,σ.bx⟩).bind _=some z from hx);have:=ael (fns:=fns) (draw:=draw) (hC Y YK k hY) (hok k) hx;show (((ghL (ghO A.an id ops).1 ⟨kill (A.an.rk id) σ.tm,σ.bx⟩).bind fun σ1=>(adp ((Ek k).env fns) A.an.mv (fF Y k) ops draw σ1).bind fun σ2=>(ghL (ghO A.an id ops).2 σ2).map _).bind _)=_;rw [hg1];simp only [Option.bind_some];cases hr:adp ((Ek k).env fns) A.an.mv (fF Y k) ops draw σ1 with
    | none=>rw [hr] at this;cases this
    | some σ2 =>
      rw [hr] at this;simp only [Option.bind_some] at this ⊢;cases hg:ghL (ghO A.an id ops).2 σ2 with
      | none=>rw [hg] at this;cases this
      | some σ3=>rw [hg] at this;exact this
  | seq x y ihx ihy =>
    intro cur hok hlp Y YK rl k hY σ K z hx;have h1:∀ k,okC ((Ek k).env fns) A.an.mv x=true:=fun k=>(Bool.and_eq_true _ _ ▸ hok k:_∧_).1;have h2:∀ k,okC ((Ek k).env fns) A.an.mv y=true:=fun k=>(Bool.and_eq_true _ _ ▸ hok k:_∧_).2;have hx:kP Ek A lS YK rl x k cur σ _=some z:=hx;have:=ihx cur h1 hlp.1 Y YK rl k hY _ _ _ hx;show ((iY (fun k=>(Ek k).env fns) A.an fF Y rl x k cur σ).bind _).bind _=_;cases hr:iY (fun k=>(Ek k).env fns) A.an fF Y rl x k cur σ with
    | none=>rw [hr] at this;cases this
    | some r =>
      rw [hr] at this;obtain ⟨e,σ'⟩:=r;cases e with
      | normal =>
        have h3:=hlp.2;have this:(match A.lp (jn y) with
          | some h=>h YK rl k ⟨kill (A.an.lk (jn y)) σ'.tm,σ'.bx⟩ K
          | none=>kP Ek A lS YK rl y k cur ⟨kill (A.an.lk (jn y)) σ'.tm,σ'.bx⟩ (acN (A.an.xk (jn y)) K))=some z:=this
        show (((iY (fun k=>(Ek k).env fns) A.an fF Y rl y k cur ⟨kill (A.an.lk (jn y)) σ'.tm,σ'.bx⟩).map fun q=>(q.1,zw (A.an.xk (jn y)) q.2)).bind fun r=>K r.1 r.2)=some z;cases hj:A.lp (jn y) with
        | some h=>rw [hj] at this h3;exact h3 Y YK rl k hY _ _ z this
        | none =>
          rw [hj] at this h3;exact xX (ihy cur h2 h3 Y YK rl k hY _ _ z this)
      | _=>exact this
  | cond c x y ihx ihy =>
    intro cur hok hlp Y YK rl k hY σ K z hx;have h1:∀ k,okC ((Ek k).env fns) A.an.mv x=true:=fun k=>(Bool.and_eq_true _ _ ▸ hok k:_∧_).1;have h2:∀ k,okC ((Ek k).env fns) A.an.mv y=true:=fun k=>(Bool.and_eq_true _ _ ▸ hok k:_∧_).2;have eT:((Ek k).env fns).T=(Ek k).T:=rfl;simp only [kP] at hx;simp only [iY,eT];cases hb:opd (Ek k).T.zc σ.tm 0 c with
    | none=>simp only [hb] at hx;cases hx
    | some w =>
      simp only [hb] at hx;cases w with
      | tup ps=>cases hx
      | pt p =>
        cases p with
        | agg cs=>cases hx
        | one cc =>
          cases cc with
          | v u =>
            cases u with
            | bool b =>
              simp only at hx ⊢;cases b with
              | true=>rw [if_pos rfl,oV hb] at hx;rw [if_pos rfl];exact ihx cur h1 hlp.1 Y YK rl k hY σ K z hx
              | false=>rw [if_neg (by simp),oV hb] at hx;rw [if_neg (by simp)];exact ihy cur h2 hlp.2 Y YK rl k hY σ K z hx
            | _=>cases hx
          | _=>cases hx
  | block id x ih =>
    intro cur hok hlp Y YK rl k hY σ K z hx;have hx:kP Ek A lS YK rl x k id σ _=some z:=hx;have:=ih id hok hlp Y YK rl k hY _ _ _ hx;show (Option.map _ (iY (fun k=>(Ek k).env fns) A.an fF Y rl x k id σ)).bind _=_;cases hr:iY (fun k=>(Ek k).env fns) A.an fF Y rl x k id σ with
    | none=>rw [hr] at this;cases this
    | some r=>rw [hr] at this;exact this
  | loop x ih =>
    intro cur hok hlp Y YK rl k hY σ K z hx;simp only [kP] at hx;simp only [wH] at hlp;cases hl:A.lp cur with
    | some h =>
      simp only [hl] at hx hlp;exact hlp Y YK rl k hY ⟨kill (A.an.lk cur) σ.tm,σ.bx⟩ K z hx
    | none =>
      simp only [hl] at hx hlp;exact sJ (fun k=>ih cur hok hlp Y YK rl k hY) k ⟨kill (A.an.lk cur) σ.tm,σ.bx⟩ K z hx
  | rangeFunc f ps x y ihx ihy =>
    intro cur hok hlp Y YK rl k hY σ K z hx;have h1:∀ k,okC ((Ek k).env fns) A.an.mv x=true:=fun k=>(Bool.and_eq_true _ _ ▸ hok k:_∧_).1;have h2:∀ k,okC ((Ek k).env fns) A.an.mv y=true:=fun k=>(Bool.and_eq_true _ _ ▸ hok k:_∧_).2;simp only [kP] at hx;simp only [wH] at hlp;have eT:((Ek k).env fns).T=(Ek k).T:=rfl;simp only [iY,eT];cases hb:opd (Ek k).T.zc σ.tm 0 f with
    | none=>simp only [hb] at hx;cases hx
    | some w =>
      simp only [hb] at hx;cases w with
      | tup ps=>cases hx
      | pt p =>
        cases p with
        | agg cs=>cases hx
        | one cc =>
          cases cc with
          | fn fid bs =>
            simp only at hx ⊢;split at hx
            case isFalse=>cases hx
            rename_i hin
            rw [if_pos hin];have:=hC _ _ k (hY.with (L:=σ.bx.length) (acO (l:=σ.bx.length) (ps:=ps.toList) (tm:=σ.tm) (ihx cur h1 hlp.1 Y YK (some σ.bx.length) k hY) (ihy cur h2 hlp.2 Y YK (some σ.bx.length) k hY))) _ _ _ _ _ hx;cases hc:fF (zq Y σ.bx.length (qj σ.bx.length ps.toList σ.tm (iY (fun k=>(Ek k).env fns) A.an fF Y (some σ.bx.length) x k cur) (iY (fun k=>(Ek k).env fns) A.an fF Y (some σ.bx.length) y k cur))) k (.fn fid bs) [.pt (.one (.yl σ.bx.length))] (σ.bx++[.lp .normal]) with
            | none=>rw [hc] at this;cases this
            | some r =>
              rw [hc] at this;obtain ⟨r,aa⟩:=r;simp only [ahe,Option.bind_some] at this;simp only;cases hb2:aa[σ.bx.length]? with
              | none=>simp only [hb2] at this;cases this
              | some B =>
                simp only [hb2] at this;cases B with
                | lp e=>exact this
                | _=>cases this
          | _=>cases hx
  | scope x ih =>
    intro cur hok hlp Y YK rl k hY σ K z hx;have hx:kP Ek A lS YK rl x k cur σ _=some z:=hx;have:=ih cur hok hlp Y YK rl k hY _ _ _ hx;show ((iY (fun k=>(Ek k).env fns) A.an fF Y rl x k cur σ).bind _).bind _=_;cases hr:iY (fun k=>(Ek k).env fns) A.an fF Y rl x k cur σ with
    | none=>rw [hr] at this;cases this
    | some r =>
      rw [hr] at this;obtain ⟨e,σ'⟩:=r;cases e with
      | goto l=>cases this
      | _=>exact this
def afn (Ek:Nat→oM) (fns:FuncId→Option Func) (A:adu γ) (fF:Hd→Nat→ji) (fn:Func):Prop:=∀ c,fn.body=some c→(∀ k,okC ((Ek k).env fns) A.an.mv c=true)∧wH Ek fns A fF c 0
theorem xY (hC:sI fF lS) {fn:Func} (hok:afn Ek fns A fF fn) {Y:Hd} {YK:HdK γ} (hY:abY Y YK) {k:Nat} {bs:List Nat} {ys:List AV} {bx:List Bx} {K:AV→List Bx→Option γ} {x:γ} (hx:aaS Ek A lS YK k fn bs ys bx K=some x) :
    ((wB (fun k=>(Ek k).env fns) A.an fF Y k fn bs ys bx).bind fun r=>K r.1 r.2)=some x:=by
  unfold aaS at hx;unfold wB;cases hc:fn.body with
  | none=>simp only [hc] at hx;cases hx
  | some code =>
    obtain ⟨ho,hl⟩:=hok code hc;simp only [hc] at hx;have:=sK hC code 0 ho hl Y YK none k hY _ _ _ hx;simp only;cases hr:iY (fun k=>(Ek k).env fns) A.an fF Y none code k 0 ⟨qm fn ys bs,bx⟩ with
    | none=>rw [hr] at this;cases this
    | some r =>
      rw [hr] at this;obtain ⟨e,σ⟩:=r;have fin:((uY (Ek k).T fn.results.toList σ).bind fun q=>K (kN bx.length (mD q.1) q.2.bx).1 (kN bx.length (mD q.1) q.2.bx).2)=some x→(Option.map (fun q=>kN bx.length (mD q.1) q.2.bx) (uY (Ek k).T fn.results.toList σ)).bind (fun r=>K r.1 r.2)=some x:=fun h=>by
        cases hv:uY (Ek k).T fn.results.toList σ with
        | none=>rw [hv] at h;cases h
        | some r=>rw [hv] at h;exact h
      cases e with
      | normal=>exact fin this
      | ret=>exact fin this
      | _=>cases this
theorem qp {A:aeY γ}:∀ (n:Nat) (yd:Nat→Option (YdK γ)),(∀ l T,yd l=some T→abX T)→(∀ m,m<n→∀ f fn,fns f=some fn→afn Ek fns (A.at m f) (qM (fun k=>(Ek k).env fns) fns A.an m) fn∧∀ l T,A.yd m f l=some T→abX T)→sI (qM (fun k=>(Ek k).env fns) fns A.an n) (vo Ek fns A n yd)
  | 0,_,_,_=>fun Y YK k hY f ys bx K x hx=>by cases hx
  | n+1,yd,hyd,hok=>fun Y YK k hY f ys bx K x hx=>by
    unfold vo at hx;unfold qM;cases f with
    | yl l =>
      obtain ⟨hk,h1,h2⟩:=Option.bind_eq_some_iff.mp hx;obtain ⟨h,h3,h4⟩:=hY l hk h1;simp only [h3,Option.bind_some];have:=h4 ys bx _ x h2;cases hr:h ys bx with
      | none=>rw [hr] at this;cases this
      | some r=>rw [hr] at this;exact afm hyd this
    | fn f bs =>
      have hd:(oM.env (Ek k) fns).mt f=(Ek k).mt f:=rfl;cases hm:(Ek k).mt f with
      | some m =>
        simp only [hm] at hx;simp only [hd,hm];cases bs with
        | cons b r=>cases hx
        | nil =>
          simp only at hx ⊢;split at hx
          · rename_i q hq
            split at hx
            · rename_i hb
              simp only [hq,hb,if_true];exact hx
            · cases hx
          · cases hx
      | none =>
      simp only [hm] at hx;simp only [hd,hm];obtain ⟨fn,h1,h2⟩:=Option.bind_eq_some_iff.mp hx;simp only [h1,Option.bind_some];obtain ⟨q1,q2⟩:=hok n (Nat.lt_succ_self n) f fn h1;exact xY (A:=A.at n f) (qp n _ q2 (fun m hm=>hok m (Nat.lt_succ_of_lt hm))) q1 hY h2
    | _=>cases hx
end
end
end Go.Proofs.YtcomnjodjijcmaaGreat.M

/- Lemmas for laws of chapter 7: what the functions that they reach compute. No condition of its own. -/
import Derived.Test.YtongeknogcboiaaGreatYW7
namespace Go.Proofs.YtongeknogcboiaaGreat.M
noncomputable section
set_option linter.unusedVariables false
set_option linter.unusedSimpArgs false
open Go.RowKit Go.Proofs.YtongeknogcboiaaGreatW.fP Go.Proofs.YtongeknogcboiaaGreatW.gK
section
variable {P:Program} {T:Tb} {nb:Nat} {g g0:Gh} {W W0:World} {fr d:Nat} {σ:St} {a:Act}
theorem zA (fn:Func) (t:Array Value):results fn t=(do
  let vs ← fn.results.mapM (rZ t)
  pure (if h:vs.size=1 then vs[0] else .tuple vs)):=by
  unfold results;congr 2
theorem adH:∀ {ps:List Pt} {vs:List Value},ps.length=vs.length→(∀ (j:Nat) (p:Pt) (v:Value),ps[j]? = some p→vs[j]? = some v→PtR nb g W (.tm fr d j) p v)→AVR nb g W fr d (nQ ps) (if h:vs.toArray.size=1 then vs.toArray[0] else .tuple vs.toArray)
  | [p],[v],_,hq=>hq 0 p v rfl rfl
  | [],[],_,_=>⟨#[],rfl,rfl,fun j p v hp=>by simp at hp⟩
  | p :: p' :: ps,v :: v' :: vs,hl,hq=>by
    rw [dif_neg (by simp)];exact ⟨_,rfl,by simpa using hl,fun j p v hp hv=>hq j p v hp (by simpa using hv)⟩
  | [],_ :: _,hl,_=>by simp at hl
  | [_],_ :: _ :: _,hl,_=>by simp at hl
  | [_],[],hl,_=>by simp at hl
  | _ :: _ :: _,[],hl,_=>by simp at hl
  | _ :: _ :: _,[_],hl,_=>by simp at hl
theorem adI (hT:nG P T) (h:Rel (fr+1) g W σ a.tmps) {fn:Func} {ps:List Pt} {σ':St} (hr:vI T fn.results.toList σ=some (ps,σ')):∃ v g',(results fn a.tmps).run P W=.ok v W∧Rel (fr+1) g' W σ' a.tmps∧Evo (Loc.below (fr+1)) σ.bx.length g W g' W∧σ'.bx.length=σ.bx.length∧AVR σ'.bx.length (g'.ren (fR fr d)) W fr d (nQ ps) v:=by
  obtain ⟨vs,g',q1,q2,q3,q4,q5,q6,_⟩:=wM hT 0 h hr;have hrun:(results fn a.tmps).run P W=.ok (if h:vs.toArray.size=1 then vs.toArray[0] else .tuple vs.toArray) W:=by
    rw [zA,Array.mapM_eq_mapM_toList];simp only [Sem.run_bind,map_eq_pure_bind,q1,Result.andThen_ok,Sem.run_pure]
  refine ⟨_,g',hrun,q3,q4,q5,?_⟩;rw [q5];refine adH q2 (fun j p v hp hv => ?_);have:=q6 j p v hp hv;rw [Nat.zero_add] at this;exact PtR.ren (fun k=>rfl) this
def mq (n:Nat) (r:AV) (bx:List Bx):AV × List Bx:=if r.refs n=true then (r,bx) else (r.cut n,tq n bx)
def qL (fn:Func) (ys:List AV) (bs:List Nat):List AV:=(ys++bs.map fun l=>.pt (.one (.bp l 0)))++List.replicate (fn.ntmps - (ys.length+bs.length)) (.pt (.one .ud))
def wN (Ek:Nat→Env) (A:Ann) (iN:Hd→Nat→kg) (Y:Hd) (k:Nat) (fn:Func) (bs:List Nat) (ys:List AV) (bx:List Bx):Option (AV × List Bx) :=
  match fn.body with
  | some code=>match jX Ek A iN Y none code k 0 ⟨qL fn ys bs,bx⟩ with
    | some (.normal,σ)=>(vI (Ek k).T fn.results.toList σ).map fun q=>mq bx.length (nQ q.1) q.2.bx
    | some (.ret,σ)=>(vI (Ek k).T fn.results.toList σ).map fun q=>mq bx.length (nQ q.1) q.2.bx
    | _=>none
  | none=>none
def rC (Ek:Nat→Env) (fns:FuncId→Option Func) (adJ:FuncId→Ann):Nat→Hd→Nat→kg
  | 0,_,_=>fun _ _ _=>none
  | n+1,Y,k=>fun c ys bx=>match c with
    | .yl l=>(Y l).bind fun h=>h ys bx
    | .fn f bs=>(fns f).bind fun fn=>wN Ek (adJ f) (rC Ek fns adJ n) Y k fn bs ys bx
    | _=>none
def aeO (P:Program) (fns:FuncId→Option Func):Prop:=∀ f fn,fns f=some fn→P.funcs[f]? = some fn∧(fn.name == "runtime.NumGoroutine")=false
theorem aci {fn:Func} {ys:List AV} {bs:List Nat} {vs:Array Value} (hb:∀ l∈bs,l<nb∧g.lv l) (hl:ys.length=vs.size) (hy:∀ (i:Nat) (x:AV) (v:Value),ys[i]? = some x→vs[i]? = some v→∀ fr' i',AVR nb g W fr' i' x v) :
    FrR nb g W fr (qL fn ys bs) ((vs++(bs.map fun l=>Value.pointer (some ⟨g.bx l,0,none⟩)).toArray)++Array.replicate (fn.ntmps - (vs++(bs.map fun l=>Value.pointer (some ⟨g.bx l,0,none⟩)).toArray).size) undef):=by
  unfold qL;refine ⟨by simp [hl],fun i x v hx hv => ?_⟩;by_cases h1:i<ys.length
  · rw [List.getElem?_append_left (by simp;omega),List.getElem?_append_left h1] at hx
    rw [Array.getElem?_append_left (by simp;omega),Array.getElem?_append_left (by omega)] at hv;exact hy i x v hx hv fr i
  · by_cases h2:i<ys.length+bs.length
    · rw [List.getElem?_append_left (by simpa using h2),List.getElem?_append_right (by omega),List.getElem?_map] at hx
      rw [Array.getElem?_append_left (by simp;omega),Array.getElem?_append_right (by omega),← hl] at hv;obtain ⟨l,h0,rfl⟩:=Option.map_eq_some_iff.mp hx;simp [h0] at hv;subst hv;exact ⟨hb l (List.mem_of_getElem? h0),rfl⟩
    · rw [List.getElem?_append_right (by simp;omega),List.getElem?_replicate] at hx
      rw [Array.getElem?_append_right (by simp;omega),Array.getElem?_replicate] at hv;split at hx
      case isFalse=>cases hx
      split at hv
      case isFalse=>cases hv
      cases hx
      cases hv
      rfl
theorem aaH {Ek:Nat→Env} {A:Ann} {iN:Hd→Nat→kg} (hm:P.follows .mixedOrders=true) (hT:∀ k,nG P (Ek k).T) (hS:∀ k,oV P (Ek k)) (hG:tF P iN) {Y:Hd} {k f:Nat} {fn:Func} (hf:P.funcs[f]? = some fn) {bs:List Nat} {ys:List AV} {vs:Array Value} {bx bx':List Bx} {r:AV}
    (hY:YOk P Y bx.length g W) (hw:Wf g W) (hbx:sN g W bx) (ht:∀ l,bx.length≤l→¬ g.lv l) (hb:∀ l∈bs,l<bx.length∧g.lv l) (hl:ys.length=vs.size) (hy:∀ (i:Nat) (x:AV) (v:Value),ys[i]? = some x→vs[i]? = some v→∀ fr' i',AVR bx.length g W fr' i' x v)
    (hs:wN Ek A iN Y k fn bs ys bx=some (r,bx')) (d:Nat):fn.body.isSome=true∧Calls P f (vs++(bs.map fun l=>Value.pointer (some ⟨g.bx l,0,none⟩)).toArray) W fun e W'=>∃ v,e=.returned v∧After fr d g W bx bx' r v W':=by
  unfold wN at hs;split at hs
  case h_2=>cases hs
  rename_i code hc
  refine ⟨by rw [hc];rfl,?_⟩;have key:∀ σ,(∃ e,(e=gy.normal∨e=.ret)∧jX Ek A iN Y none code k 0 ⟨qL fn ys bs,bx⟩=some (e,σ))→(vI (Ek k).T fn.results.toList σ).map (fun q=>mq bx.length (nQ q.1) q.2.bx)=some (r,bx')→Calls P f (vs++(bs.map fun l=>Value.pointer (some ⟨g.bx l,0,none⟩)).toArray) W fun e W'=>∃ v,e=.returned v∧After fr d g W bx bx' r v W':=by
    rintro σ ⟨e,he,hev⟩ hres;obtain ⟨⟨ps,σ9⟩,hr0,hcl⟩:=Option.map_eq_some_iff.mp hres;refine (callsIn_wide (n:=0)).1 (callsIn_of_wp_marks hf hc trivial ?_);refine acg hm hT hS hG code Y none k 0 _ e σ hev none (fr+1) W.heap.size g W _ 0 _ hY (.inl ⟨rfl,rfl⟩) uD.nil (Nat.le_refl _) ⟨hw,aci hb hl hy,hbx,ht⟩ (fun g1 W1 a1 af hE1 hl1 hD1 => ?_);obtain ⟨Ds,hds,nd,hDs⟩:=hD1;have hfin:LeavesInM Fence.wide 0 P fn a1.tmps (fun e W'=>∃ v,e=.returned v∧After fr d g W bx bx' r v W') a1.defers .returning W1:=by
      rw [hds];refine vH (A:=Loc.below (fr+1)) (g0:=g) (W0:=W) (nb:=bx.length) (fun W2 hR2 hE2 => ?_) Ds W1 nd hDs af hE1;obtain ⟨v,g2,hv1,ab,ah,hlen,hv2⟩:=adI (d:=d) (hT k) hR2 hr0;have ac:Evo (Loc.below (fr+1)) bx.length g W (g2.ren (fR fr d)) W2:=(hE2.trans ah hl1).trans (Evo.ren (nb:=bx.length) ach) (Nat.le_refl _);have hb3:sN (g2.ren (fR fr d)) W2 σ9.bx:=ab.bx.ren (fun _ _=>rfl) (fun _=>rfl);have aa:bx.length≤σ9.bx.length:=by rw [hlen];exact hl1
      refine ⟨v,hv1,v,rfl,?_⟩;unfold mq at hcl;split at hcl
      · cases hcl
        exact ⟨_,ab.wf.ren,hb3,ab.top,aa,ac,hv2⟩
      · cases hcl
        exact ⟨_,ab.wf.ren.cut,hb3.cut aa,tC aa,by rw [kQ aa];exact Nat.le_refl _,ac.trans Evo.cut (Nat.le_refl _),by rw [kQ aa];exact hv2.cut⟩
    rcases he with rfl | rfl
    · exact hfin
    · exact hfin
  split at hs
  · rename_i σ hev
    exact key σ ⟨_,.inl rfl,hev⟩ hs
  · rename_i σ hev
    exact key σ ⟨_,.inr rfl,hev⟩ hs
  · cases hs
theorem aaI {T:Tb} {mv:Nat→Bool} {l n:Nat} {σ σ':St} {o:Oper} (hs:step T mv l σ o=some σ') (hp:wG o=true) (hl:n≤l):σ'.bx.take n=σ.bx.take n∧σ'.bx.length=σ.bx.length:=by
  have hq:quiet T σ o=some σ'→σ'.bx.take n=σ.bx.take n∧σ'.bx.length=σ.bx.length:=fun hq=>by
    obtain ⟨x,_,rfl⟩:=Option.map_eq_some_iff.mp hq;exact ⟨rfl,rfl⟩
  have hA:∀ {s d},moveA σ s d=some σ'→σ'.bx.take n=σ.bx.take n∧σ'.bx.length=σ.bx.length:=fun hs=>by
    obtain ⟨x,_,rfl⟩:=Option.map_eq_some_iff.mp hs;split <;> exact ⟨rfl,rfl⟩
  unfold wG at hp;unfold step at hs;split at hp
  · rename_i ho
    rw [ho] at hs;cases hd:o.dst with
    | none=>rw [hd] at hs;exact hq hs
    | some d =>
      rw [hd] at hs;simp only at hs;unfold abG at hs;split at hs
      · split at hs
        · cases hs
          exact ⟨by rw [List.take_set_of_le hl],by simp⟩
        · cases hs
      · cases hs
  · rename_i ho
    rw [ho] at hs;exact hq hs
  · rename_i x ho
    rw [ho] at hs;cases x with
    | tmp s =>
      cases hd:o.dst with
      | none=>rw [hd] at hs;exact hq hs
      | some d=>rw [hd] at hs;exact hA hs
    | _=>exact hq hs
  · cases hp
theorem vJ {E:Env} {mv:Nat→Bool} {call:kg} {ops:Array Oper} {l0 n:Nat} (hp:ops.toList.all wG=true) (hl:n≤l0):∀ (is:List Nat) (σ σ':St),ab7 E mv call ops l0 is σ=some σ'→σ'.bx.take n=σ.bx.take n∧σ'.bx.length=σ.bx.length
  | [],σ,σ',h=>by cases h;exact ⟨rfl,rfl⟩
  | i :: r,σ,σ',h=>by
    obtain ⟨σ1,h1,h2⟩:=Option.bind_eq_some_iff.mp h;obtain ⟨q1,q2⟩:=vJ hp hl r σ1 σ' h2;obtain ⟨o,ho,h3⟩:=Option.bind_eq_some_iff.mp h1;obtain ⟨b,_,h4⟩:=Option.bind_eq_some_iff.mp h3;have hpo:wG o=true:=List.all_eq_true.1 hp o (by
      rw [← Array.getElem?_toList] at ho;exact List.mem_of_getElem? ho)
    have:σ1.bx.take n=σ.bx.take n∧σ1.bx.length=σ.bx.length:=by
      split at h4
      · have he:exec E mv call (nT ops l0 i) σ o=step E.T mv (nT ops l0 i) σ o:=by
          unfold exec;unfold wG at hpo;split
          · rename_i c hc;rw [hc] at hpo;cases hpo
          · rfl
        rw [he] at h4;exact aaI h4 hpo (by unfold nT;omega)
      · cases h4;exact ⟨rfl,rfl⟩
    exact ⟨q1.trans this.1,q2.trans this.2⟩
theorem zB {Ek:Nat→Env} {A:Ann} {iN:Hd→Nat→kg} {Y:Hd} {rl:Option Nat} {n:Nat}:∀ (c:Code) (k cur:Nat) (σ σ':St) (e:gy),yX c=true→n≤σ.bx.length→jX Ek A iN Y rl c k cur σ=some (e,σ')→σ'.bx.take n=σ.bx.take n∧n≤σ'.bx.length:=by
  intro c;induction c with
  | skip=>intro k cur σ σ' e hp hn h;cases h;exact ⟨rfl,hn⟩
  | ret=>intro k cur σ σ' e hp hn h;cases h;exact ⟨rfl,hn⟩
  | region id ops draw =>
    intro k cur σ σ' e hp hn hs;obtain ⟨σ1,h1,hs⟩:=Option.bind_eq_some_iff.mp hs;obtain ⟨σ2,h2,hs⟩:=Option.bind_eq_some_iff.mp hs;obtain ⟨σf,h3,h4⟩:=Option.map_eq_some_iff.mp hs;have hp:ab1 ops=true:=hp;have hg:ghO A id ops=([],[]):=by unfold ghO;rw [hp]
    rw [hg] at h1 h3;cases h1;cases h3;cases h4;unfold acU at h2;split at h2
    case isFalse=>cases h2
    have hpo:ops.toList.all wG=true:=by
      unfold ab1 at hp;rw [Bool.and_eq_true] at hp;exact hp.1
    obtain ⟨q1,q2⟩:=vJ (n:=n) hpo hn _ _ _ h2;refine ⟨q1.trans ?_,by rw [q2];simp only [M.reserve,List.length_append];omega⟩;simp only [M.reserve];rw [List.take_append_of_le_length hn]
  | seq x y ihx ihy =>
    intro k cur σ σ' e hp hn hs;have hp:(yX x&&yX y)=true:=hp;rw [Bool.and_eq_true] at hp;obtain ⟨⟨e1,σ1⟩,h1,h2⟩:=Option.bind_eq_some_iff.mp hs;obtain ⟨q1,q2⟩:=ihx k cur σ σ1 e1 hp.1 hn h1;cases e1 with
    | normal =>
      obtain ⟨⟨e3,σ3⟩,h3,h4⟩:=Option.map_eq_some_iff.mp h2;cases h4;obtain ⟨r1,r2⟩:=ihy k cur ⟨kill (A.lk (jn y)) σ1.tm,σ1.bx⟩ σ3 e3 hp.2 q2 h3;exact ⟨r1.trans q1,r2⟩
    | exit id=>cases h2;exact ⟨q1,q2⟩
    | ret=>cases h2;exact ⟨q1,q2⟩
    | goto l=>cases h2;exact ⟨q1,q2⟩
  | _=>intro k cur σ σ' e hp;cases hp
theorem vK {T:Tb}:∀ (rs:List ResultVar) (σ:St) (q:List Pt × St),(rs.all fun r=>match r with | .tmp _=>true | .cell _ _=>false)=true→vI T rs σ=some q→q.2.bx=σ.bx
  | [],σ,q,_,h=>by cases h;rfl
  | .cell _ _ :: _,σ,q,hp,h=>by simp at hp
  | .tmp t :: rs,σ,q,hp,h=>by
    simp only [vI] at h;split at h
    · obtain ⟨q',h1,rfl⟩:=Option.map_eq_some_iff.mp h
      have:=vK rs ⟨σ.tm.set t (.pt _),σ.bx⟩ q' (by simpa using hp) h1;exact this
    · cases h
theorem Cell.mM (n:Nat) (c:Cell):(c.cut n).refs n=false:=by
  cases c with
  | fn f bs =>
    simp only [Cell.cut];split
    · rename_i h
      simp only [Cell.refs];rw [List.any_eq_false];intro l hl;have:=List.all_eq_true.1 h l hl;simp at this ⊢;omega
    · rfl
  | bp l off=>simp only [Cell.cut];split <;> simp [Cell.refs];omega
  | yl l=>simp only [Cell.cut];split <;> simp [Cell.refs];omega
  | ar l t m=>simp only [Cell.cut];split <;> simp [Cell.refs];omega
  | ae l t i off=>simp only [Cell.cut];split <;> simp [Cell.refs];omega
  | mh l=>simp only [Cell.cut];split <;> simp [Cell.refs];omega
  | _=>rfl
theorem Pt.mM (n:Nat) (p:Pt):(p.cut n).refs n=false:=by
  cases p with
  | one c=>exact c.mM n
  | agg cs =>
    simp only [Pt.cut,Pt.refs];rw [List.any_eq_false];intro c hc;obtain ⟨c',_,rfl⟩:=List.mem_map.1 hc;rw [c'.mM n];simp
theorem AV.mM (n:Nat) (x:AV):(x.cut n).refs n=false:=by
  cases x with
  | pt p=>exact p.mM n
  | tup ps =>
    simp only [AV.cut,AV.refs];rw [List.any_eq_false];intro c hc;obtain ⟨c',_,rfl⟩:=List.mem_map.1 hc;rw [c'.mM n];simp
theorem zC {Ek:Nat→Env} {A:Ann} {iN:Hd→Nat→kg} {Y:Hd} {k:Nat} {fn:Func} {bs:List Nat} {ys:List AV} {bx bx':List Bx} {r:AV} (hp:aaq fn=true) (h:wN Ek A iN Y k fn bs ys bx=some (r,bx')) (hr:r.refs bx.length=true):bx'.take bx.length=bx:=by
  unfold aaq at hp;rw [Bool.and_eq_true] at hp;unfold wN at h;cases hb:fn.body with
  | none=>simp only [hb] at h;cases h
  | some code =>
    simp only [hb] at h hp;have key:∀ (e:gy) (σ:St),jX Ek A iN Y none code k 0 ⟨qL fn ys bs,bx⟩=some (e,σ)→((vI (Ek k).T fn.results.toList σ).map fun q=>mq bx.length (nQ q.1) q.2.bx)=some (r,bx')→bx'.take bx.length=bx:=by
      intro e σ h1 h2;obtain ⟨q1,q2⟩:=zB (n:=bx.length) code k 0 _ σ e hp.1 (Nat.le_refl _) h1;obtain ⟨q,h3,h4⟩:=Option.map_eq_some_iff.mp h2;have h5:=vK _ _ _ hp.2 h3;unfold mq at h4;split at h4
      · cases h4
        rw [h5,q1];exact List.take_length
      · cases h4
        rw [AV.mM] at hr;cases hr
    split at h
    · rename_i σ h1;exact key _ σ h1 h
    · rename_i σ h1;exact key _ σ h1 h
    · cases h
theorem yw {Ek:Nat→Env} {fns:FuncId→Option Func} {adJ:FuncId→Ann} (hm:P.follows .mixedOrders=true) (hT:∀ k,nG P (Ek k).T) (hS:∀ k,oV P (Ek k)) (hF:aeO P fns):∀ n,tF P (rC Ek fns adJ n)
  | 0,Y,k,nb,g0,W0,fr,hY=>fun g W d ys vs c u bx bx' r _ _ _ _ _ _ _ _ hs=>by cases hs
  | n+1,Y,k,nb,g0,W0,fr,hY=>fun g W d ys vs c u bx bx' r hE hn hw hbx ht hc hl hy hs=>by
    have hG:=yw (adJ:=adJ) hm hT hS hF n;have ab:=hY.evo hE hn;unfold rC at hs;cases c with
    | yl l =>
      obtain ⟨h,h1,h2⟩:=Option.bind_eq_some_iff.mp hs;obtain ⟨hlv,rfl⟩:=hc;exact ⟨ab l h h1 g W fr d ys vs bx bx' r (Evo.refl _ _ _ _) (Nat.le_refl _) hw hbx ht hl hy h2,fun f caps e=>by cases e⟩
    | fn f bs =>
      obtain ⟨fn,h1,h2⟩:=Option.bind_eq_some_iff.mp hs;obtain ⟨p1,p2⟩:=hF f fn h1;obtain ⟨hlv,rfl⟩:=hc;obtain ⟨p3,aa⟩:=aaH (fr:=fr) hm hT hS hG p1 ab hw hbx ht hlv hl hy h2 d;refine ⟨Does.fn p1 p2 p3 aa,fun f' caps e => ?_⟩;injection e with e1 e2 e3
      injection e1 with e1
      subst e1;subst e3;exact ⟨⟨fn,p1,p2,p3⟩,aa,fun ⟨fn',q1,q2⟩ hr=>by
        rw [p1] at q1;cases q1;exact zC q2 h2 hr⟩
    | v=>cases hs
    | sl=>cases hs
    | ow=>cases hs
    | bp=>cases hs
    | ep=>cases hs
    | mu=>cases hs
    | ar=>cases hs
    | ae=>cases hs
    | mh=>cases hs
    | ud=>cases hs
    | no=>cases hs
end
end
end Go.Proofs.YtongeknogcboiaaGreat.M
namespace Go.Proofs.YtongeknogcboiaaGreat.M
noncomputable section
set_option linter.unusedVariables false
set_option linter.unusedSimpArgs false
open Go.RowKit Go.Proofs.YtongeknogcboiaaGreatW.fP Go.Proofs.YtongeknogcboiaaGreatW.gK
structure Sm where
  α:Type
  rd:List AV→Option (Option α)
  av:α→AV
def Sm.s (m:Sm) (ys:List AV):Option AV:=(m.rd ys).bind fun o=>o.map m.av
structure pV where
  T:Tb
  sm:FuncId→Option Sm
  nw:FuncId→Bool
def pV.env (E:pV) (fns:FuncId→Option Func):Env:=⟨E.T,fns,fun f=>(E.sm f).map Sm.s,E.nw⟩
section
variable {γ:Type}
def Sm.k (m:Sm) (ys:List AV) (K:AV→Option γ):Option γ:=(m.rd ys).bind fun o=>o.bind fun x=>K (m.av x)
theorem Sm.k_eq (m:Sm) (ys:List AV) (K:AV→Option γ):m.k ys K=(m.s ys).bind K:=by
  unfold Sm.k Sm.s;cases m.rd ys with
  | none=>rfl
  | some o=>cases o <;> rfl
abbrev mX (γ:Type):=Cell→List AV→List Bx→(AV→List Bx→Option γ)→Option γ
abbrev aeP (γ:Type):=List AV→List Bx→(AV→List Bx→Option γ)→Option γ
abbrev HdK (γ:Type):=Nat→Option (aeP γ)
def aeQ (tm:List AV):Operand→Bool→List AV
  | .tmp t,b=>tm.set t (kC b)
  | _,_=>tm
def afP (T:Tb) (t:TypeId) (op:BinOp) (u v:Value) (K:Value→Option γ):Option γ:=match op with
  | .quo=>(match u,v with
    | .int k a,.int k' b=>if k=k' then (if b=0 then none else K (.int k (wr k (Int.tdiv a b)))) else none
    | _,_=>none)
  | .rem=>(match u,v with
    | .int k a,.int k' b=>if k=k' then (if b=0 then none else K (.int k (Int.tmod a b))) else none
    | _,_=>none)
  | op=>(zQ T t op u v).bind K
def wO (T:Tb) (σ:St) (c:Call) (d:Nat) (K:St→Option γ):Option γ :=
  match c.callee,c.args.toList,c.argTypes.toList with
  | .builtin .append,[s,x],[t,t']=>if t=t' then (match T.el t,(qz T σ.tm t s).bind ownOf?,(opd T.zc σ.tm t x).bind slOf? with
    | some (e,k,by'),some (z,e',⟨k',xs⟩),some ⟨k2,ys⟩ =>
      if e'=e∧k'=k then (if h:k2=k' then (if xs.length+ys.length≤140737488355328 / by' then K ⟨(oQ σ.tm s (.one (Cell.own z e' k' xs))).set d (.pt (.one (Cell.own z e' k' (xs++(h ▸ ys))))),σ.bx⟩ else none) else none) else none
    | _,_,_=>none) else none
  | _,_,_=>none
def mkK (T:Tb) (σ:St) (t:TypeId) (l c:Operand) (d:Nat) (K:St→Option γ):Option γ :=
  match (opd T.zc σ.tm 0 l).bind intOf?,(opd T.zc σ.tm 0 c).bind intOf?,T.el t with
  | some n,some m,some (e,k,by')=>(match (T.zc e).bind k.of with
    | some z=>if aao l c n m=true then (if 0≤n then (if n≤((140737488355328 / by':Nat):Int) then K ⟨σ.tm.set d (.pt (.one (.mu e k (List.replicate n.toNat z)))),σ.bx⟩ else none) else none) else none
    | none=>none)
  | _,_,_=>none
theorem aeR {T:Tb} {σ:St} {t:TypeId} {l c:Operand} {d:Nat} {K:St→Option γ}:mkK T σ t l c d K=(mkS T σ t l c d).bind K:=by
  unfold mkK mkS;split
  · rename_i q1 q2 q3
    simp only [q1,q2,q3];split
    · rename_i q4
      simp only [q4];split
      · split
        · split <;> rfl
        · rfl
      · rfl
    · rename_i q4
      simp only [q4];rfl
  · rename_i hno
    split
    · exact (hno _ _ _ _ _ ‹_› ‹_› ‹_›).elim
    · rfl
theorem acj {δ:Type} {n:Int} {l h m:Option Int} {x:Option δ} {f:δ→Option γ}:(slC n l h m x).bind f=slC n l h m (x.bind f):=by
  unfold slC;split <;> first | rfl | (split <;> first | rfl | (split <;> first | rfl | (split <;> rfl)))
def acn (T:Tb) (mv:Nat→Bool) (l:Nat) (σ:St) (o:Oper) (K:St→Option γ):Option γ :=
  match o.op with
  | .pick c a b=>(match opd T.zc σ.tm 0 c with
    | some (.pt (.one (.v (.bool t))))=>if t=true then (opd T.zc σ.tm o.type a).bind fun x=>K ⟨put (aeQ σ.tm c true) o.dst x,σ.bx⟩ else (opd T.zc σ.tm o.type b).bind fun x=>K ⟨put (aeQ σ.tm c false) o.dst x,σ.bx⟩
    | _=>none)
  | .indexAddr t x i=>(match (opd T.zc σ.tm 0 x).bind baseOf?,(opd T.zc σ.tm 0 i).bind intOf?,T.el t with
    | some ⟨k,n,f⟩,some j,some (_,k',_)=>if k=k' then (if 0≤j then (if j<(n:Int) then K ⟨put σ.tm o.dst (.pt (.one (f j.toNat))),σ.bx⟩ else none) else none) else none
    | _,_,_=>none)
  | .slice t x lo hi mx=>(match (opd T.zc σ.tm 0 x).bind slOf?,T.el t,abF T σ.tm lo,abF T σ.tm hi,abF T σ.tm mx with
    | some ⟨k,xs⟩,some (_,k',_),some l,some h,some m=>if k=k' then slC (xs.length:Int) l h m (K ⟨put σ.tm o.dst (.pt (.one (.sl k (slL xs l h)))),σ.bx⟩) else none
    | _,_,_,_,_=>none)
  | .makeSlice t l c=>(match o.dst with
    | some d=>mkK T σ t l c d K
    | none=>none)
  | .binOp op t x y _=>(match opd T.zc σ.tm 0 x,opd T.zc σ.tm 0 y with
    | some (.pt (.one (.v u))),some (.pt (.one (.v v)))=>afP T t op u v fun r=>K ⟨put σ.tm o.dst (.pt (.one (.v r))),σ.bx⟩
    | _,_=>(step T mv l σ o).bind K)
  | .call c=>(match o.dst with
    | some d=>if Call.xX c then wO T σ c d K else (step T mv l σ o).bind K
    | none=>(step T mv l σ o).bind K)
  | _=>(step T mv l σ o).bind K
theorem qc {zc:TypeId→Option (List Cell)} {tm:List AV} {c:Operand} {t:Bool} (h:opd zc tm 0 c=some (.pt (.one (.v (.bool t))))):aeQ tm c t=tm:=by
  cases c with
  | tmp i =>
    obtain ⟨x,hx,he⟩:=Option.map_eq_some_iff.mp h;refine set_self ?_;rw [hx];cases x with
    | pt p =>
      cases p with
      | one c=>cases c <;> first | (cases he;rfl) | cases he
      | agg cs=>cases he
    | tup ps=>cases he
  | const=>rfl
  | func=>rfl
  | global=>rfl
theorem adK {T:Tb} {t:TypeId} {op:BinOp} {u v:Value} {K:Value→Option γ}:afP T t op u v K=(zQ T t op u v).bind K:=by
  unfold afP;split
  · split
    · rename_i k a k' b
      simp only [zQ,acS];split
      · split <;> rfl
      · rfl
    · rename_i h
      cases u <;> cases v <;> first | rfl | exact (h _ _ _ _ rfl rfl).elim | (simp [zQ])
  · split
    · rename_i k a k' b
      simp only [zQ,acS];split
      · split <;> rfl
      · rfl
    · rename_i h
      cases u <;> cases v <;> first | rfl | exact (h _ _ _ _ rfl rfl).elim | (simp [zQ])
  · rfl
theorem zD {T:Tb} {σ:St} {c:Call} {d:Nat} {K:St→Option γ}:wO T σ c d K=(lS T σ c d).bind K:=by
  unfold wO lS;split
  · rename_i s x t t' h1 h2 h3
    simp only [h1,h2,h3];by_cases ht:t=t'
    · rw [if_pos ht,if_pos ht]
      unfold afE;split
      · rename_i q1 q2 q3
        simp only [q1,q2,q3];split
        · split
          · split <;> rfl
          · rfl
        · rfl
      · rename_i hno
        split
        · exact (hno _ _ _ _ _ _ _ _ _ ‹_› ‹_› ‹_›).elim
        · rfl
    · rw [if_neg ht,if_neg ht];rfl
  · rename_i hno
    split
    · exact (hno _ _ _ _ ‹_› ‹_› ‹_›).elim
    · rfl
theorem yx {T:Tb} {mv:Nat→Bool} {l:Nat} {σ:St} {o:Oper} {K:St→Option γ}:acn T mv l σ o K=(step T mv l σ o).bind K:=by
  unfold acn;split
  · rename_i c a b ho
    have hst:step T mv l σ o=quiet T σ o:=by unfold step;rw [ho]
    rw [hst];unfold quiet val;rw [ho];simp only;split
    · rename_i t hc
      simp only [hc];cases t with
      | true=>rw [if_pos rfl,if_pos rfl,qc hc];cases opd T.zc σ.tm o.type a <;> rfl
      | false=>rw [if_neg (by simp),if_neg (by simp),qc hc];cases opd T.zc σ.tm o.type b <;> rfl
    · rename_i hno
      split
      · exact (hno _ ‹_›).elim
      · rfl
  · rename_i t x i ho
    have hst:step T mv l σ o=quiet T σ o:=by unfold step;rw [ho]
    rw [hst];unfold quiet val;rw [ho];simp only;split
    · rename_i q1 q2 q3
      simp only [q1,q2,q3];split
      · split
        · split <;> rfl
        · rfl
      · rfl
    · rename_i hno
      split
      · exact (hno _ _ _ _ _ _ _ ‹_› ‹_› ‹_›).elim
      · rfl
  · rename_i t x lo hi mx ho
    have hst:step T mv l σ o=quiet T σ o:=by unfold step;rw [ho]
    rw [hst];unfold quiet val;rw [ho];simp only [zR];split
    · rename_i q1 q2 q3 q4 q5
      simp only [q1,q2,q3,q4,q5];split
      · rw [Option.bind_map,acj]
        rfl
      · rfl
    · rename_i hno
      split
      · exact (hno _ _ _ _ _ _ _ _ ‹_› ‹_› ‹_› ‹_› ‹_›).elim
      · rfl
  · rename_i t l' c ho
    have hst:step T mv l σ o=mO T l σ o:=by unfold step;rw [ho]
    rw [hst];unfold mO;rw [ho];cases o.dst with
    | none=>rfl
    | some d=>exact aeR
  · rename_i op t x y ty ho
    split
    · rename_i u v q1 q2
      have hst:step T mv l σ o=quiet T σ o:=by unfold step;rw [ho]
      rw [hst];unfold quiet val;rw [ho];simp only [q1,q2];rw [adK];cases zQ T t op u v <;> rfl
    · rfl
  · rename_i c ho
    split
    · rename_i d hd
      split
      · rename_i happ
        have hst:step T mv l σ o=lS T σ c d:=by unfold step;rw [ho,hd];simp [happ]
        rw [hst,zD]
      · rfl
    · rfl
  · rfl
def aeS (E:pV) (ko:mX γ) (σ:St) (c:Call) (d:Option Nat) (f:Cell) (K:St→Option γ):Option γ :=
  (jf E.T σ.tm c.args.toList c.argTypes.toList).bind fun ys=>ko f ys σ.bx fun r bx=>K ⟨put σ.tm d r,bx⟩
def afQ (E:pV) (ko:mX γ) (σ:St) (c:Call) (d:Option Nat) (f:Cell) (K:St→Option γ):Option γ :=
  (jf E.T σ.tm c.args.toList c.argTypes.toList).bind fun ys=>ko f ys σ.bx fun r bx=>if r.refs σ.bx.length=true then K ⟨put σ.tm d r,σ.bx++bx.drop σ.bx.length⟩ else none
def adL (E:pV) (ko:mX γ) (σ:St) (c:Call) (d:Option Nat) (f:Cell) (K:St→Option γ):Option γ:=match f with
  | .fn q []=>(match E.sm q with
    | some s=>(jf E.T σ.tm c.args.toList c.argTypes.toList).bind fun ys=>s.k ys fun r=>K ⟨put σ.tm d r,σ.bx⟩
    | none=>aeS E ko σ c d f K)
  | f=>aeS E ko σ c d f K
def adM (E:pV) (σ:St) (c:Call) (d:Option Nat) (f:Cell) (K:St→Option γ):Option γ:=match f with
  | .fn q []=>(E.sm q).bind fun s=>(jf E.T σ.tm c.args.toList c.argTypes.toList).bind fun ys=>s.k ys fun r=>K ⟨put σ.tm d r,σ.bx⟩
  | _=>none
def rD (E:pV) (mv:Nat→Bool) (ko:mX γ) (l:Nat) (σ:St) (o:Oper) (K:St→Option γ):Option γ :=
  match o.op with
  | .call c=>(match c.callee with
    | .value (.func f)=>(match E.sm f with
      | some s=>(jf E.T σ.tm c.args.toList c.argTypes.toList).bind fun ys=>s.k ys fun r=>K ⟨put σ.tm o.dst r,σ.bx⟩
      | none=>match E.nw f with
        | true=>afQ E ko σ c o.dst (.fn f []) K
        | false=>aeS E ko σ c o.dst (.fn f []) K)
    | .value (.tmp t)=>(match mv (t+100000) with
      | true=>((σ.tm[t]?).bind cellOf?).bind fun f=>adM E σ c o.dst f K
      | false=>((σ.tm[t]?).bind cellOf?).bind fun f=>adL E ko σ c o.dst f K)
    | .value _=>none
    | _=>acn E.T mv l σ o K)
  | _=>acn E.T mv l σ o K
def pR (c:kg) (ck:mX γ):Prop:=∀ f ys bx K x,ck f ys bx K=some x→((c f ys bx).bind fun r=>K r.1 r.2)=some x
variable {E:pV} {fns:FuncId→Option Func} {mv:Nat→Bool} {call:kg} {ko:mX γ} {σ:St} {o:Oper} {ops:Array Oper}
theorem wP (h:pR call ko) {c:Call} {d:Option Nat} {f:Cell} {K:St→Option γ} {x:γ} (hx:aeS E ko σ c d f K=some x):(mK (E.env fns) call σ c d f).bind K=some x:=by
  unfold aeS at hx;unfold mK;show ((jf E.T σ.tm c.args.toList c.argTypes.toList).bind _).bind K=_;cases hy:jf E.T σ.tm c.args.toList c.argTypes.toList with
  | none=>rw [hy] at hx;cases hx
  | some ys =>
    rw [hy] at hx;simp only [Option.bind_some] at hx ⊢;have:=h _ _ _ _ _ hx;cases hc:call f ys σ.bx with
    | none=>rw [hc] at this;cases this
    | some r=>rw [hc] at this;exact this
theorem adN (h:pR call ko) {c:Call} {d:Option Nat} {f:Cell} {K:St→Option γ} {x:γ} (hx:afQ E ko σ c d f K=some x):(nX (E.env fns) call σ c d f).bind K=some x:=by
  unfold afQ at hx;unfold nX;show ((jf E.T σ.tm c.args.toList c.argTypes.toList).bind _).bind K=_;cases hy:jf E.T σ.tm c.args.toList c.argTypes.toList with
  | none=>rw [hy] at hx;cases hx
  | some ys =>
    rw [hy] at hx;simp only [Option.bind_some] at hx ⊢;have:=h _ _ _ _ _ hx;cases hc:call f ys σ.bx with
    | none=>rw [hc] at this;cases this
    | some r =>
      rw [hc] at this;simp only [Option.bind_some] at this ⊢;split at this
      · rename_i hr;rw [if_pos hr];exact this
      · cases this
theorem aco (h:pR call ko) {c:Call} {d:Option Nat} {f:Cell} {K:St→Option γ} {x:γ} (hx:adL E ko σ c d f K=some x):(lX (E.env fns) call σ c d f).bind K=some x:=by
  unfold adL at hx;unfold lX sumOf;split at hx
  · rename_i q
    cases hs:E.sm q with
    | some m =>
      have hs2:(E.env fns).sum q=some m.s:=by show (E.sm q).map Sm.s=_;rw [hs];rfl
      simp only [hs] at hx;simp only [hs2,kX];show Option.bind (Option.map _ ((jf E.T σ.tm c.args.toList c.argTypes.toList).bind m.s)) K=_;cases hy:jf E.T σ.tm c.args.toList c.argTypes.toList with
      | none=>rw [hy] at hx;cases hx
      | some ys =>
        rw [hy] at hx;simp only [Option.bind_some] at hx ⊢;rw [Sm.k_eq] at hx;cases hm:m.s ys with
        | none=>rw [hm] at hx;cases hx
        | some r=>rw [hm] at hx;exact hx
    | none =>
      have hs2:(E.env fns).sum q=none:=by show (E.sm q).map Sm.s=_;rw [hs];rfl
      simp only [hs] at hx;simp only [hs2];exact wP h hx
  · rename_i hno
    split
    · rename_i s hs
      split at hs
      · rename_i q;exact (hno q rfl).elim
      · cases hs
    · exact wP h hx
theorem acp {c:Call} {d:Option Nat} {f:Cell} {K:St→Option γ} {x:γ} (hx:adM E σ c d f K=some x):((sumOf (E.env fns) f).bind fun s=>kX (E.env fns) σ c d s).bind K=some x:=by
  unfold adM at hx;split at hx
  case h_2=>cases hx
  rename_i q
  cases hs:E.sm q with
  | none=>rw [hs] at hx;cases hx
  | some m =>
    have hs2:(E.env fns).sum q=some m.s:=by show (E.sm q).map Sm.s=_;rw [hs];rfl
    simp only [hs,Option.bind_some] at hx;simp only [sumOf,hs2,Option.bind_some,kX];show Option.bind (Option.map _ ((jf E.T σ.tm c.args.toList c.argTypes.toList).bind m.s)) K=_;cases hy:jf E.T σ.tm c.args.toList c.argTypes.toList with
    | none=>rw [hy] at hx;cases hx
    | some ys =>
      rw [hy] at hx;simp only [Option.bind_some] at hx ⊢;rw [Sm.k_eq] at hx;cases hm:m.s ys with
      | none=>rw [hm] at hx;cases hx
      | some r=>rw [hm] at hx;exact hx
theorem tH (h:pR call ko) {l:Nat} {K:St→Option γ} {x:γ} (hx:rD E mv ko l σ o K=some x):(exec (E.env fns) mv call l σ o).bind K=some x:=by
  obtain ⟨dst,op,ty,pos,after,guard⟩:=o;cases op with
  | call c =>
    obtain ⟨aa,args,ats⟩:=c;cases aa with
    | value f =>
      cases f with
      | func f =>
        cases hs:E.sm f with
        | some m =>
          have hs2:(E.env fns).sum f=some m.s:=by show (E.sm f).map Sm.s=_;rw [hs];rfl
          simp only [rD,exec,hs,hs2,kX] at hx ⊢;show Option.bind (Option.map _ ((jf E.T σ.tm args.toList ats.toList).bind m.s)) K=_;cases hy:jf E.T σ.tm args.toList ats.toList with
          | none=>rw [hy] at hx;cases hx
          | some ys =>
            rw [hy] at hx;simp only [Option.bind_some] at hx ⊢;rw [Sm.k_eq] at hx;cases hm:m.s ys with
            | none=>rw [hm] at hx;cases hx
            | some r=>rw [hm] at hx;exact hx
        | none =>
          have hs2:(E.env fns).sum f=none:=by show (E.sm f).map Sm.s=_;rw [hs];rfl
          have hw:(E.env fns).nw f=E.nw f:=rfl;cases hn:E.nw f with
          | true =>
            simp only [rD,exec,hs,hs2,hw,hn] at hx ⊢;exact adN h hx
          | false =>
            simp only [rD,exec,hs,hs2,hw,hn] at hx ⊢;exact wP h hx
      | tmp t =>
        simp only [rD,exec] at hx ⊢;cases hm:mv (t+100000) with
        | true =>
          simp only [hm] at hx ⊢;cases hc:(σ.tm[t]?).bind cellOf? with
          | none=>rw [hc] at hx;cases hx
          | some f=>rw [hc] at hx;exact acp hx
        | false =>
          simp only [hm] at hx ⊢;cases hc:(σ.tm[t]?).bind cellOf? with
          | none=>rw [hc] at hx;cases hx
          | some f=>rw [hc] at hx;exact aco h hx
      | const=>cases hx
      | global=>cases hx
    | _=>simp only [rD,exec] at hx ⊢;rw [yx] at hx;exact hx
  | _=>simp only [rD,exec] at hx ⊢;rw [yx] at hx;exact hx
end
end
end Go.Proofs.YtongeknogcboiaaGreat.M
namespace Go.Proofs.YtongeknogcboiaaGreat.M
noncomputable section
set_option linter.unusedVariables false
set_option linter.unusedSimpArgs false
open Go.RowKit Go.Proofs.YtongeknogcboiaaGreatW.fP Go.Proofs.YtongeknogcboiaaGreatW.gK
inductive Lf where
  | i (n:Int) | b (b:Bool) | l (t:Ty) (xs:List t.T) | e (t:Ty) (x:t.T) | n (n:Nat) | m (xs:List (Int × Int))
inductive PC where
  | i (k:IntKind) | b | s (t:Ty) | o (e:TypeId) (t:Ty) | e (t:Ty) (off:Nat)
  | li (k:IntKind) (n:Int) | lb (b:Bool) | ls (t:Ty) | lo (e:TypeId) (t:Ty) | nf | bp (l off:Nat) | fn (f:FuncId) (bs:List Nat) | yl (l:Nat) | mu (e:TypeId) (t:Ty) | lm (e:TypeId) (t:Ty) | ar (l:Nat) (t:Ty) | mh (l:Nat) | lf (e:TypeId) (xs:List (FuncId × FuncId)) | ud | no
def PC.rd:PC→Cell→Option (List Lf)
  | .i k,.v (.int k' n)=>if k'=k then some [.i n] else none
  | .b,.v (.bool z)=>some [.b z]
  | .s t,.sl t' xs=>if t'=t then some [.l t' xs] else none
  | .o q t,.ow q' t' xs=>if q'=q∧t'=t then some [.l t' xs] else none
  | .e t off,.ep t' x off'=>if t'=t∧off'=off then some [.e t' x] else none
  | .li k n,.v (.int k' n')=>if k'=k∧n'=n then some [] else none
  | .lb z,.v (.bool z')=>if z'=z then some [] else none
  | .ls t,.sl t' []=>if t'=t then some [] else none
  | .lo q t,.ow q' t' []=>if q'=q∧t'=t then some [] else none
  | .nf,.v .nilFunc=>some []
  | .bp l off,.bp l' off'=>if l'=l∧off'=off then some [] else none
  | .fn f bs,.fn f' bs'=>if f'=f∧bs'=bs then some [] else none
  | .yl l,.yl l'=>if l'=l then some [] else none
  | .mu q t,.mu q' t' xs=>if q'=q∧t'=t then some [.l t' xs] else none
  | .lm q t,.mu q' t' []=>if q'=q∧t'=t then some [] else none
  | .ar l t,.ar l' t' n=>if l'=l∧t'=t then some [.n n] else none
  | .mh l,.mh l'=>if l'=l then some [] else none
  | .lf q xs,.ow q' .ff xs'=>if q'=q∧xs'=xs then some [] else none
  | .ud,.ud=>some []
  | .no,.no=>some []
  | _,_=>none
def PC.mk:PC→List Lf→Cell × List Lf
  | .i k,.i n :: r=>(.v (.int k n),r)
  | .b,.b z :: r=>(.v (.bool z),r)
  | .s _,.l t xs :: r=>(.sl t xs,r)
  | .o q _,.l t xs :: r=>(.ow q t xs,r)
  | .e _ off,.e t x :: r=>(.ep t x off,r)
  | .li k n,r=>(.v (.int k n),r)
  | .lb z,r=>(.v (.bool z),r)
  | .ls t,r=>(.sl t [],r)
  | .lo q t,r=>(.ow q t [],r)
  | .nf,r=>(.v .nilFunc,r)
  | .bp l off,r=>(.bp l off,r)
  | .fn f bs,r=>(.fn f bs,r)
  | .yl l,r=>(.yl l,r)
  | .mu q _,.l t xs :: r=>(.mu q t xs,r)
  | .lm q t,r=>(.mu q t [],r)
  | .ar l t,.n n :: r=>(.ar l t n,r)
  | .mh l,r=>(.mh l,r)
  | .lf q xs,r=>(.ow q .ff xs,r)
  | .ud,r=>(.ud,r)
  | _,r=>(.no,r)
theorem PC.rd_mk {p:PC} {c:Cell} {ls r:List Lf} (h:p.rd c=some ls):p.mk (ls++r)=(c,r):=by
  unfold PC.rd at h;split at h;all_goals first
    | (cases h;done)
    | (split at h <;> first
        | (cases h;done)
        | (cases h;rename_i hh;first
            | (obtain ⟨rfl,rfl⟩:=hh;rfl)
            | (subst hh;rfl)))
    | (cases h;rfl)
def aeT:List PC→List Cell→Option (List Lf)
  | [],[]=>some []
  | p :: ps,c :: cs=>match p.rd c,aeT ps cs with
    | some a,some b=>some (a++b)
    | _,_=>none
  | _,_=>none
def acX:List PC→List Lf→List Cell × List Lf
  | [],r=>([],r)
  | p :: ps,r=>((p.mk r).1 :: (acX ps (p.mk r).2).1,(acX ps (p.mk r).2).2)
theorem wQ:∀ {ps:List PC} {cs:List Cell} {ls r:List Lf},aeT ps cs=some ls→acX ps (ls++r)=(cs,r)
  | [],[],ls,r,h=>by cases h;rfl
  | [],_ :: _,ls,r,h=>by cases h
  | _ :: _,[],ls,r,h=>by cases h
  | p :: ps,c :: cs,ls,r,h=>by
    simp only [aeT] at h;split at h
    case h_2=>cases h
    rename_i a b h1 h2
    cases h
    simp only [acX];rw [List.append_assoc,PC.rd_mk h1,wQ h2]
inductive PV where
  | one (p:PC) | agg (ps:List PC) | tup (ps:List PC)
def PV.rd:PV→AV→Option (List Lf)
  | .one p,.pt (.one c)=>p.rd c
  | .agg ps,.pt (.agg cs)=>aeT ps cs
  | _,_=>none
def PV.mk:PV→List Lf→AV × List Lf
  | .one p,r=>(.pt (.one (p.mk r).1),(p.mk r).2)
  | .agg ps,r=>(.pt (.agg (acX ps r).1),(acX ps r).2)
  | .tup _,r=>(.pt (.one .no),r)
theorem PV.rd_mk {p:PV} {x:AV} {ls r:List Lf} (h:p.rd x=some ls):p.mk (ls++r)=(x,r):=by
  unfold PV.rd at h;split at h
  · simp only [PV.mk,PC.rd_mk h]
  · simp only [PV.mk,wQ h]
  · cases h
def afG:List PV→List AV→Option (List Lf)
  | [],[]=>some []
  | p :: ps,x :: xs=>match p.rd x,afG ps xs with
    | some a,some b=>some (a++b)
    | _,_=>none
  | _,_=>none
def aeu:List PV→List Lf→List AV × List Lf
  | [],r=>([],r)
  | p :: ps,r=>((p.mk r).1 :: (aeu ps (p.mk r).2).1,(aeu ps (p.mk r).2).2)
theorem aaJ:∀ {ps:List PV} {xs:List AV} {ls r:List Lf},afG ps xs=some ls→aeu ps (ls++r)=(xs,r)
  | [],[],ls,r,h=>by cases h;rfl
  | [],_ :: _,ls,r,h=>by cases h
  | _ :: _,[],ls,r,h=>by cases h
  | p :: ps,c :: cs,ls,r,h=>by
    simp only [afG] at h;split at h
    case h_2=>cases h
    rename_i a b h1 h2
    cases h
    simp only [aeu];rw [List.append_assoc,PV.rd_mk h1,aaJ h2]
inductive PB where
  | box (t:TypeId) (ps:List PC) | no | lp (e:gy) | lpb | arr (e:TypeId) (t:Ty) | mi | lmi | gone
def PB.rd:PB→Bx→Option (List Lf)
  | .box t ps,.box t' cs=>if t'=t then aeT ps cs else none
  | .no,.no=>some []
  | .lp e,.lp e'=>if e'=e then some [] else none
  | .lpb,.lpb=>some []
  | .arr e t,.arr e' t' xs=>if e'=e∧t'=t then some [.l t' xs] else none
  | .mi,.mi xs=>some [.m xs]
  | .lmi,.mi []=>some []
  | .gone,.gone=>some []
  | _,_=>none
def PB.mk:PB→List Lf→Bx × List Lf
  | .box t ps,r=>(.box t (acX ps r).1,(acX ps r).2)
  | .no,r=>(.no,r)
  | .lp e,r=>(.lp e,r)
  | .lpb,r=>(.lpb,r)
  | .arr e _,.l t xs :: r=>(.arr e t xs,r)
  | .mi,.m xs :: r=>(.mi xs,r)
  | .lmi,r=>(.mi [],r)
  | .gone,r=>(.gone,r)
  | _,r=>(.no,r)
theorem PB.rd_mk {p:PB} {x:Bx} {ls r:List Lf} (h:p.rd x=some ls):p.mk (ls++r)=(x,r):=by
  unfold PB.rd at h;split at h
  · split at h
    · rename_i e;subst e;simp only [PB.mk,wQ h]
    · cases h
  · cases h;rfl
  · split at h
    · rename_i e;subst e;cases h;rfl
    · cases h
  · cases h;rfl
  · split at h
    · rename_i e;obtain ⟨rfl,rfl⟩:=e;cases h;rfl
    · cases h
  · cases h;rfl
  · cases h;rfl
  · cases h;rfl
  · cases h
def aeU:List PB→List Bx→Option (List Lf)
  | [],[]=>some []
  | p :: ps,x :: xs=>match p.rd x,aeU ps xs with
    | some a,some b=>some (a++b)
    | _,_=>none
  | _,_=>none
def oq:List PB→List Lf→List Bx × List Lf
  | [],r=>([],r)
  | p :: ps,r=>((p.mk r).1 :: (oq ps (p.mk r).2).1,(oq ps (p.mk r).2).2)
theorem wR:∀ {ps:List PB} {xs:List Bx} {ls r:List Lf},aeU ps xs=some ls→oq ps (ls++r)=(xs,r)
  | [],[],ls,r,h=>by cases h;rfl
  | [],_ :: _,ls,r,h=>by cases h
  | _ :: _,[],ls,r,h=>by cases h
  | p :: ps,c :: cs,ls,r,h=>by
    simp only [aeU] at h;split at h
    case h_2=>cases h
    rename_i a b h1 h2
    cases h
    simp only [oq];rw [List.append_assoc,PB.rd_mk h1,wR h2]
structure PS where
  tm:List PV
  bx:List PB
def PS.rd (p:PS) (σ:St):Option (List Lf):=match afG p.tm σ.tm,aeU p.bx σ.bx with
  | some a,some b=>some (a++b)
  | _,_=>none
def PS.mk' (p:PS) (r:List Lf):St:=⟨(aeu p.tm r).1,(oq p.bx (aeu p.tm r).2).1⟩
theorem PS.rd_mk {p:PS} {σ:St} {ls:List Lf} (h:p.rd σ=some ls):p.mk' ls=σ:=by
  unfold PS.rd at h;split at h
  case h_2=>cases h
  rename_i a b h1 h2
  cases h
  unfold PS.mk';rw [aaJ h1];have:=wR (r:=[]) h2;rw [List.append_nil] at this;rw [this]
end
end Go.Proofs.YtongeknogcboiaaGreat.M
namespace Go.Proofs.YtongeknogcboiaaGreat.M
noncomputable section
set_option linter.unusedVariables false
set_option linter.unusedSimpArgs false
open Go.RowKit Go.Proofs.YtongeknogcboiaaGreatW.fP Go.Proofs.YtongeknogcboiaaGreatW.gK
section
variable {γ:Type}
def acr (E:pV) (mv:Nat→Bool) (ko:mX γ) (ops:Array Oper) (l0 i:Nat) (σ:St) (K:St→Option γ):Option γ :=
  match ops[i]? with
  | none=>none
  | some o=>match o.guard with
    | none=>rD E mv ko (nT ops l0 i) σ o K
    | some (_,w)=>match ab6 ops o with
      | none=>none
      | some d=>match σ.tm[d]? with
        | some (.pt (.one (.v (.bool b))))=>if b=true then (match w with
            | true=>rD E mv ko (nT ops l0 i) ⟨σ.tm.set d (kC true),σ.bx⟩ o K
            | false=>K (skipped ⟨σ.tm.set d (kC true),σ.bx⟩ o)) else (match w with
            | true=>K (skipped ⟨σ.tm.set d (kC false),σ.bx⟩ o)
            | false=>rD E mv ko (nT ops l0 i) ⟨σ.tm.set d (kC false),σ.bx⟩ o K)
        | some (.pt (.one .ud))=>K (skipped σ o)
        | _=>none
def adO (E:pV) (mv:Nat→Bool) (ko:mX γ) (ops:Array Oper) (l0:Nat):List Nat→St→(St→Option γ)→Option γ
  | [],σ,K=>K σ
  | i :: r,σ,K=>acr E mv ko ops l0 i σ fun σ'=>adO E mv ko ops l0 r σ' K
def afR (E:pV) (mv:Nat→Bool) (ko:mX γ) (ops:Array Oper) (σ:St) (K:St→Option γ):Option γ :=
  adO E mv ko ops σ.bx.length (List.range ops.size) (reserve σ (oZ ops)) K
variable {E:pV} {fns:FuncId→Option Func} {mv:Nat→Bool} {call:kg} {ko:mX γ} {ops:Array Oper} {l0:Nat}
theorem acs (h:pR call ko) {i:Nat} {σ:St} {K K':St→Option γ} {x:γ} (hK:∀ σ,K σ=some x→K' σ=some x) (hx:acr E mv ko ops l0 i σ K=some x):(opAt (E.env fns) mv call ops l0 i σ).bind K'=some x:=by
  have fin:∀ o:Option St,o.bind K=some x→o.bind K'=some x:=fun o ho=>by
    cases o with
    | none=>cases ho
    | some r=>exact hK r ho
  unfold acr at hx;unfold opAt;cases ho:ops[i]? with
  | none=>rw [ho] at hx;cases hx
  | some o =>
    simp only [ho] at hx;simp only [Option.bind_some];unfold rW gate;cases hg:o.guard with
    | none =>
      simp only [hg] at hx;simp only [Option.bind_some,if_true];exact fin _ (tH h hx)
    | some jw =>
      obtain ⟨j,w⟩:=jw;simp only [hg] at hx;simp only;cases hd:ab6 ops o with
      | none=>rw [hd] at hx;cases hx
      | some d =>
        simp only [hd] at hx;simp only [Option.bind_some];cases hy:σ.tm[d]? with
        | none=>rw [hy] at hx;cases hx
        | some y =>
          simp only [hy] at hx;simp only [Option.map_some];cases y with
          | tup ps=>cases hx
          | pt p =>
            cases p with
            | agg cs=>cases hx
            | one c =>
              cases c with
              | ud=>exact hK _ hx
              | v u =>
                cases u with
                | bool b =>
                  have hs:⟨σ.tm.set d (kC b),σ.bx⟩=σ:=by
                    obtain ⟨tm,bx⟩:=σ;exact congrArg (fun t=>St.mk t bx) (set_self hy)
                  cases b <;> cases w
                  all_goals (simp only [AV.un,Pt.un,Cell.un,Bool.false_eq_true,if_false,if_true] at hx ⊢;rw [hs] at hx)
                  · exact fin _ (tH h hx)
                  · exact hK _ hx
                  · exact hK _ hx
                  · exact fin _ (tH h hx)
                | _=>cases hx
              | _=>cases hx
theorem yA (h:pR call ko) {K:St→Option γ} {x:γ}:∀ (is:List Nat) (σ:St),adO E mv ko ops l0 is σ K=some x→(ab7 (E.env fns) mv call ops l0 is σ).bind K=some x
  | [],σ,hx=>hx
  | i :: r,σ,hx=>by
    have hx:acr E mv ko ops l0 i σ _=some x:=hx;have:=acs (fns:=fns) (K':=fun σ'=>(ab7 (E.env fns) mv call ops l0 r σ').bind K) h (fun σ'=>yA h r σ') hx;show ((opAt (E.env fns) mv call ops l0 i σ).bind _).bind K=_;cases ho:opAt (E.env fns) mv call ops l0 i σ with
    | none=>rw [ho] at this;cases this
    | some σ'=>rw [ho] at this;exact this
theorem adP (h:pR call ko) {draw:Bool} (hok:(!draw || ab9 (E.env fns) mv ops)=true) {σ:St} {K:St→Option γ} {x:γ} (hx:afR E mv ko ops σ K=some x):(acU (E.env fns) mv call ops draw σ).bind K=some x:=by
  unfold afR at hx;unfold acU;rw [if_pos hok];exact yA h _ _ hx
def aaK (l:Nat) (ps:List Nat) (tm:List AV) (RA RB:St→(gy→St→Option γ)→Option γ):aeP γ:=fun ys bx K =>
  match bx[l]? with
  | some (.lp .normal)=>if ys.length=ps.length then RA ⟨mW (tm.map AV.un) ps ys,bx⟩ (fun e σ1=>match e with
    | .normal=>(match σ1.bx[l]? with
      | some (.lp .normal)=>RB ⟨σ1.tm,σ1.bx.set l .lpb⟩ (fun e σ2=>match σ2.bx[l]? with
        | some .lpb=>K (kC (decide (e=.normal))) ((tq bx.length σ2.bx).set l (.lp e))
        | _=>none)
      | _=>none)
    | _=>none) else none
  | _=>none
def agC (L:Nat) (tm:List AV) (K:gy→St→Option γ):AV→List Bx→Option γ:=fun _ aa=>match aa[L]? with
  | some (.lp e)=>K e ⟨tm,tq L aa⟩
  | _=>none
def agD (R:St→Option γ) (K:gy→St→Option γ):gy→St→Option γ:=fun e σ=>match e with
  | .normal=>R σ
  | e=>K e σ
def ahq (id:Nat) (K:gy→St→Option γ):gy→St→Option γ:=fun e σ=>K (if e=.exit id then .normal else e) σ
def ahr (K:gy→St→Option γ):gy→St→Option γ:=fun e σ=>match e with
  | .goto _=>none
  | e=>K e σ
abbrev LpK (γ:Type):=HdK γ→Option Nat→Nat→St→(gy→St→Option γ)→Option γ
abbrev YdK (γ:Type):=(AV→List Bx→Option γ)→AV→List Bx→Option γ
structure acY (γ:Type) where
  an:Ann
  lp:Nat→Option (LpK γ)
  yd:Nat→Option (YdK γ)
def uE (T:YdK γ):Prop:=∀ K x bx v,T K x bx=some v→K x bx=some v
def ydK (yd:Nat→Option (YdK γ)) (l:Nat) (K:AV→List Bx→Option γ):AV→List Bx→Option γ:=match yd l with
  | some T=>T K
  | none=>K
theorem aeV {yd:Nat→Option (YdK γ)} (h:∀ l T,yd l=some T→uE T) {l:Nat} {K:AV→List Bx→Option γ} {x:AV} {bx:List Bx} {v:γ} (hx:ydK yd l K x bx=some v):K x bx=some v:=by
  unfold ydK at hx;cases hT:yd l with
  | some T=>simp only [hT] at hx;exact h l T hT K x bx v hx
  | none=>simp only [hT] at hx;exact hx
def afS (xs:Option (List Nat)) (n:Nat) (K:gy→St→Option γ):gy→St→Option γ:=fun e σ=>K e (aer xs n σ)
def acu (F:Nat→St→(gy→St→Option γ)→Option γ) (ds xs:Option (List Nat)) (n:Nat):Nat→St→(gy→St→Option γ)→Option γ
  | 0,_,_=>none
  | k+1,σ,K=>F k σ (agD (fun σ'=>acu F ds xs n k (aer ds n σ') K) (afS xs n K))
def aaL (Y:HdK γ) (L:Nat) (h:aeP γ):HdK γ:=fun q=>if q=L then some h else Y q
def acv (ks:Option (List Nat)) (K:gy→St→Option γ):gy→St→Option γ:=fun e σ=>K e (zw ks σ)
def mD (Ek:Nat→pV) (A:acY γ) (iN:HdK γ→Nat→mX γ) (Y:HdK γ) (rl:Option Nat):Code→Nat→Nat→St→(gy→St→Option γ)→Option γ
  | .skip,_,_,σ,K=>K .normal σ
  | .label _,_,_,σ,K=>K .normal σ
  | .region id ops _,k,_,σ,K=>(ghL (ghO A.an id ops).1 ⟨kill (A.an.rk id) σ.tm,σ.bx⟩).bind fun σ1=>afR (Ek k) A.an.mv (iN Y k) ops σ1 fun σ2=>(ghL (ghO A.an id ops).2 σ2).bind (K .normal)
  | .seq x y,k,cur,σ,K=>mD Ek A iN Y rl x k cur σ (agD (fun σ'=>match A.lp (jn y) with
    | some h=>h Y rl k ⟨kill (A.an.lk (jn y)) σ'.tm,σ'.bx⟩ K
    | none=>mD Ek A iN Y rl y k cur ⟨kill (A.an.lk (jn y)) σ'.tm,σ'.bx⟩ (acv (A.an.xk (jn y)) K)) K)
  | .cond c x y,k,cur,σ,K=>match opd (Ek k).T.zc σ.tm 0 c with
    | some (.pt (.one (.v (.bool b))))=>if b=true then mD Ek A iN Y rl x k cur ⟨aeQ σ.tm c true,σ.bx⟩ K else mD Ek A iN Y rl y k cur ⟨aeQ σ.tm c false,σ.bx⟩ K
    | _=>none
  | .block id x,k,_,σ,K=>mD Ek A iN Y rl x k id σ (ahq id K)
  | .loop x,k,cur,σ,K=>match A.lp cur with
    | some h=>h Y rl k ⟨kill (A.an.lk cur) σ.tm,σ.bx⟩ K
    | none=>acu (fun k σ K=>mD Ek A iN Y rl x k cur σ K) (A.an.lk cur) (A.an.xk cur) σ.bx.length k ⟨kill (A.an.lk cur) σ.tm,σ.bx⟩ K
  | .rangeFunc f ps x y,k,cur,σ,K=>match opd (Ek k).T.zc σ.tm 0 f with
    | some (.pt (.one (.fn fid bs)))=>if inB rl σ.bx=true then
      iN (aaL Y σ.bx.length (aaK σ.bx.length ps.toList σ.tm (mD Ek A iN Y (some σ.bx.length) x k cur) (mD Ek A iN Y (some σ.bx.length) y k cur))) k (.fn fid bs) [.pt (.one (.yl σ.bx.length))] (σ.bx++[.lp .normal]) (agC σ.bx.length σ.tm K) else none
    | _=>none
  | .exit id,_,_,σ,K=>K (.exit id) σ
  | .ret,_,_,σ,K=>K .ret σ
  | .goto l,_,_,σ,K=>K (.goto l) σ
  | .scope x,k,cur,σ,K=>mD Ek A iN Y rl x k cur σ (ahr K)
  | .refuse _,_,_,_,_=>none
def ahs (T:Tb) (rs:List ResultVar) (n:Nat) (K:AV→List Bx→Option γ):gy→St→Option γ:=fun e σ=>match e with
  | .normal=>(vI T rs σ).bind fun q=>K (mq n (nQ q.1) q.2.bx).1 (mq n (nQ q.1) q.2.bx).2
  | .ret=>(vI T rs σ).bind fun q=>K (mq n (nQ q.1) q.2.bx).1 (mq n (nQ q.1) q.2.bx).2
  | _=>none
def aaM (Ek:Nat→pV) (A:acY γ) (iN:HdK γ→Nat→mX γ) (Y:HdK γ) (k:Nat) (fn:Func) (bs:List Nat) (ys:List AV) (bx:List Bx) (K:AV→List Bx→Option γ):Option γ :=
  match fn.body with
  | some code=>mD Ek A iN Y none code k 0 ⟨qL fn ys bs,bx⟩ (ahs (Ek k).T fn.results.toList bx.length K)
  | none=>none
structure aev (γ:Type) where
  an:FuncId→Ann
  lp:Nat→FuncId→Nat→Option (LpK γ)
  yd:Nat→FuncId→Nat→Option (YdK γ)
def aev.at (A:aev γ) (n:Nat) (f:FuncId):acY γ:=⟨A.an f,A.lp n f,A.yd n f⟩
def vL (Ek:Nat→pV) (fns:FuncId→Option Func) (A:aev γ):Nat→(Nat→Option (YdK γ))→HdK γ→Nat→mX γ
  | 0,_,_,_=>fun _ _ _ _=>none
  | n+1,yd,Y,k=>fun c ys bx K=>match c with
    | .yl l=>(Y l).bind fun h=>h ys bx (ydK yd l K)
    | .fn f bs=>(fns f).bind fun fn=>aaM Ek (A.at n f) (vL Ek fns A n (A.yd n f)) Y k fn bs ys bx K
    | _=>none
def okC (E:Env) (mv:Nat→Bool):Code→Bool
  | .region _ ops draw => !draw || ab9 E mv ops
  | .seq x y=>okC E mv x&&okC E mv y
  | .cond _ x y=>okC E mv x&&okC E mv y
  | .block _ x=>okC E mv x
  | .loop x=>okC E mv x
  | .rangeFunc _ _ x y=>okC E mv x&&okC E mv y
  | .scope x=>okC E mv x
  | _=>true
def okF (E:Env) (mv:Nat→Bool) (fn:Func):Bool:=match fn.body with
  | some c=>okC E mv c
  | none=>true
def aaN (h:List AV→List Bx→Option (AV × List Bx)) (hk:aeP γ):Prop:=∀ ys bx K x,hk ys bx K=some x→((h ys bx).bind fun r=>K r.1 r.2)=some x
def abH (Y:Hd) (YK:HdK γ):Prop:=∀ q hk,YK q=some hk→∃ h,Y q=some h∧aaN h hk
def tJ (F:St→Option (gy × St)) (FK:St→(gy→St→Option γ)→Option γ):Prop:=∀ σ K x,FK σ K=some x→((F σ).bind fun r=>K r.1 r.2)=some x
def tK (iN:Hd→Nat→kg) (mY:HdK γ→Nat→mX γ):Prop:=∀ Y YK k,abH Y YK→pR (iN Y k) (mY YK k)
theorem tN {F:Nat→St→Option (gy × St)} {FK:Nat→St→(gy→St→Option γ)→Option γ} (h:∀ k,tJ (F k) (FK k)) {ds xs:Option (List Nat)} {n:Nat}:∀ k,tJ (zu F ds xs n k) (acu FK ds xs n k)
  | 0=>fun σ K x hx=>by cases hx
  | k+1=>fun σ K x hx=>by
    have h1:=h k σ _ x hx;show ((F k σ).bind _).bind _=_;cases hF:F k σ with
    | none=>rw [hF] at h1;cases h1
    | some r =>
      rw [hF] at h1;obtain ⟨e,σ'⟩:=r;cases e with
      | normal=>exact tN h k _ K x h1
      | _=>exact h1
theorem acw {l:Nat} {ps:List Nat} {tm:List AV} {FA FB:St→Option (gy × St)} {RA RB:St→(gy→St→Option γ)→Option γ} (hA:tJ FA RA) (hB:tJ FB RB):aaN (qJ l ps tm FA FB) (aaK l ps tm RA RB):=by
  intro ys bx K x hx;unfold aaK at hx;unfold qJ;cases hb:bx[l]? with
  | none=>simp only [hb] at hx;cases hx
  | some B =>
    simp only [hb] at hx;cases B with
    | lp e =>
      cases e with
      | normal =>
        simp only at hx ⊢;split at hx
        case isFalse=>cases hx
        rename_i hl
        rw [if_pos hl];have h1:=hA _ _ _ hx;cases aa:FA ⟨mW (tm.map AV.un) ps ys,bx⟩ with
        | none=>rw [aa] at h1;cases h1
        | some r =>
          rw [aa] at h1;obtain ⟨e1,σ1⟩:=r;simp only [Option.bind_some] at h1;cases e1 with
          | normal =>
            simp only at h1 ⊢;cases hb1:σ1.bx[l]? with
            | none=>simp only [hb1] at h1;cases h1
            | some B1 =>
              simp only [hb1] at h1;cases B1 with
              | lp e =>
                cases e with
                | normal =>
                  simp only at h1 ⊢;have h2:=hB _ _ _ h1;cases ab:FB ⟨σ1.tm,σ1.bx.set l .lpb⟩ with
                  | none=>rw [ab] at h2;cases h2
                  | some r2 =>
                    rw [ab] at h2;obtain ⟨e2,σ2⟩:=r2;simp only [Option.bind_some] at h2;simp only;cases hb2:σ2.bx[l]? with
                    | none=>simp only [hb2] at h2;cases h2
                    | some B2 =>
                      simp only [hb2] at h2;cases B2 with
                      | lpb=>exact h2
                      | _=>cases h2
                | _=>cases h1
              | _=>cases h1
          | _=>cases h1
      | _=>cases hx
    | _=>cases hx
theorem abH.with {Y:Hd} {YK:HdK γ} (h:abH Y YK) {L:Nat} {f:List AV→List Bx→Option (AV × List Bx)} {fk:aeP γ} (hf:aaN f fk):abH (zq Y L f) (aaL YK L fk):=fun q hk hq=>by
  unfold aaL at hq;unfold zq;by_cases e:q=L
  · rw [if_pos e] at hq ⊢
    cases hq
    exact ⟨f,rfl,hf⟩
  · rw [if_neg e] at hq ⊢
    exact h q hk hq
variable {Ek:Nat→pV} {A:acY γ} {iN:Hd→Nat→kg} {mY:HdK γ→Nat→mX γ}
def wS (Ek:Nat→pV) (fns:FuncId→Option Func) (A:acY γ) (iN:Hd→Nat→kg):Code→Nat→Prop
  | .seq x y,cur=>wS Ek fns A iN x cur∧(match A.lp (jn y) with
    | some h=>∀ Y YK rl k,abH Y YK→tJ (fun σ=>(jX (fun k=>(Ek k).env fns) A.an iN Y rl y k cur σ).map fun q=>(q.1,zw (A.an.xk (jn y)) q.2)) (h YK rl k)
    | none=>wS Ek fns A iN y cur)
  | .cond _ x y,cur=>wS Ek fns A iN x cur∧wS Ek fns A iN y cur
  | .block id x,_=>wS Ek fns A iN x id
  | .loop x,cur=>(match A.lp cur with
    | some h=>∀ Y YK rl k,abH Y YK→tJ (fun σ=>zu (fun k σ=>jX (fun k=>(Ek k).env fns) A.an iN Y rl x k cur σ) (A.an.lk cur) (A.an.xk cur) σ.bx.length k σ) (h YK rl k)
    | none=>wS Ek fns A iN x cur)
  | .rangeFunc f ps x y,cur=>wS Ek fns A iN x cur∧wS Ek fns A iN y cur
  | .scope x,cur=>wS Ek fns A iN x cur
  | _,_=>True
theorem yB {ks:Option (List Nat)} {o:Option (gy × St)} {K:gy→St→Option γ} {z:γ} (h:(o.bind fun r=>acv ks K r.1 r.2)=some z):((o.map fun q=>(q.1,zw ks q.2)).bind fun r=>K r.1 r.2)=some z:=by
  cases o with
  | none=>cases h
  | some q=>exact h
theorem tO (hC:tK iN mY) (x:Code):∀ (cur:Nat),(∀ k,okC ((Ek k).env fns) A.an.mv x=true)→wS Ek fns A iN x cur→∀ (Y:Hd) (YK:HdK γ) (rl:Option Nat) (k:Nat),abH Y YK→tJ (jX (fun k=>(Ek k).env fns) A.an iN Y rl x k cur) (mD Ek A mY YK rl x k cur):=by
  induction x with
  | skip=>exact fun cur _ _ Y YK rl k hY σ K z hx=>hx
  | label l=>exact fun cur _ _ Y YK rl k hY σ K z hx=>hx
  | exit id=>exact fun cur _ _ Y YK rl k hY σ K z hx=>hx
  | ret=>exact fun cur _ _ Y YK rl k hY σ K z hx=>hx
  | goto l=>exact fun cur _ _ Y YK rl k hY σ K z hx=>hx
  | refuse w=>exact fun cur _ _ Y YK rl k hY σ K z hx=>by cases hx
  | region id ops draw =>
    intro cur hok hlp Y YK rl k hY σ K z hx;obtain ⟨σ1,hg1,hx⟩:=Option.bind_eq_some_iff.mp (show (ghL (ghO A.an id ops).1 ⟨kill (A.an.rk id) σ.tm,σ.bx⟩).bind _=some z from hx);have:=adP (fns:=fns) (draw:=draw) (hC Y YK k hY) (hok k) hx;show (((ghL (ghO A.an id ops).1 ⟨kill (A.an.rk id) σ.tm,σ.bx⟩).bind fun σ1=>(acU ((Ek k).env fns) A.an.mv (iN Y k) ops draw σ1).bind fun σ2=>(ghL (ghO A.an id ops).2 σ2).map _).bind _)=_;rw [hg1];simp only [Option.bind_some];cases hr:acU ((Ek k).env fns) A.an.mv (iN Y k) ops draw σ1 with
    | none=>rw [hr] at this;cases this
    | some σ2 =>
      rw [hr] at this;simp only [Option.bind_some] at this ⊢;cases hg:ghL (ghO A.an id ops).2 σ2 with
      | none=>rw [hg] at this;cases this
      | some σ3=>rw [hg] at this;exact this
  | seq x y ihx ihy =>
    intro cur hok hlp Y YK rl k hY σ K z hx;have h1:∀ k,okC ((Ek k).env fns) A.an.mv x=true:=fun k=>(Bool.and_eq_true _ _ ▸ hok k:_∧_).1;have h2:∀ k,okC ((Ek k).env fns) A.an.mv y=true:=fun k=>(Bool.and_eq_true _ _ ▸ hok k:_∧_).2;have hx:mD Ek A mY YK rl x k cur σ _=some z:=hx;have:=ihx cur h1 hlp.1 Y YK rl k hY _ _ _ hx;show ((jX (fun k=>(Ek k).env fns) A.an iN Y rl x k cur σ).bind _).bind _=_;cases hr:jX (fun k=>(Ek k).env fns) A.an iN Y rl x k cur σ with
    | none=>rw [hr] at this;cases this
    | some r =>
      rw [hr] at this;obtain ⟨e,σ'⟩:=r;cases e with
      | normal =>
        have h3:=hlp.2;have this:(match A.lp (jn y) with
          | some h=>h YK rl k ⟨kill (A.an.lk (jn y)) σ'.tm,σ'.bx⟩ K
          | none=>mD Ek A mY YK rl y k cur ⟨kill (A.an.lk (jn y)) σ'.tm,σ'.bx⟩ (acv (A.an.xk (jn y)) K))=some z:=this
        show (((jX (fun k=>(Ek k).env fns) A.an iN Y rl y k cur ⟨kill (A.an.lk (jn y)) σ'.tm,σ'.bx⟩).map fun q=>(q.1,zw (A.an.xk (jn y)) q.2)).bind fun r=>K r.1 r.2)=some z;cases hj:A.lp (jn y) with
        | some h=>rw [hj] at this h3;exact h3 Y YK rl k hY _ _ z this
        | none =>
          rw [hj] at this h3;exact yB (ihy cur h2 h3 Y YK rl k hY _ _ z this)
      | _=>exact this
  | cond c x y ihx ihy =>
    intro cur hok hlp Y YK rl k hY σ K z hx;have h1:∀ k,okC ((Ek k).env fns) A.an.mv x=true:=fun k=>(Bool.and_eq_true _ _ ▸ hok k:_∧_).1;have h2:∀ k,okC ((Ek k).env fns) A.an.mv y=true:=fun k=>(Bool.and_eq_true _ _ ▸ hok k:_∧_).2;have eT:((Ek k).env fns).T=(Ek k).T:=rfl;simp only [mD] at hx;simp only [jX,eT];cases hb:opd (Ek k).T.zc σ.tm 0 c with
    | none=>simp only [hb] at hx;cases hx
    | some w =>
      simp only [hb] at hx;cases w with
      | tup ps=>cases hx
      | pt p =>
        cases p with
        | agg cs=>cases hx
        | one cc =>
          cases cc with
          | v u =>
            cases u with
            | bool b =>
              simp only at hx ⊢;cases b with
              | true=>rw [if_pos rfl,qc hb] at hx;rw [if_pos rfl];exact ihx cur h1 hlp.1 Y YK rl k hY σ K z hx
              | false=>rw [if_neg (by simp),qc hb] at hx;rw [if_neg (by simp)];exact ihy cur h2 hlp.2 Y YK rl k hY σ K z hx
            | _=>cases hx
          | _=>cases hx
  | block id x ih =>
    intro cur hok hlp Y YK rl k hY σ K z hx;have hx:mD Ek A mY YK rl x k id σ _=some z:=hx;have:=ih id hok hlp Y YK rl k hY _ _ _ hx;show (Option.map _ (jX (fun k=>(Ek k).env fns) A.an iN Y rl x k id σ)).bind _=_;cases hr:jX (fun k=>(Ek k).env fns) A.an iN Y rl x k id σ with
    | none=>rw [hr] at this;cases this
    | some r=>rw [hr] at this;exact this
  | loop x ih =>
    intro cur hok hlp Y YK rl k hY σ K z hx;simp only [mD] at hx;simp only [wS] at hlp;cases hl:A.lp cur with
    | some h =>
      simp only [hl] at hx hlp;exact hlp Y YK rl k hY ⟨kill (A.an.lk cur) σ.tm,σ.bx⟩ K z hx
    | none =>
      simp only [hl] at hx hlp;exact tN (fun k=>ih cur hok hlp Y YK rl k hY) k ⟨kill (A.an.lk cur) σ.tm,σ.bx⟩ K z hx
  | rangeFunc f ps x y ihx ihy =>
    intro cur hok hlp Y YK rl k hY σ K z hx;have h1:∀ k,okC ((Ek k).env fns) A.an.mv x=true:=fun k=>(Bool.and_eq_true _ _ ▸ hok k:_∧_).1;have h2:∀ k,okC ((Ek k).env fns) A.an.mv y=true:=fun k=>(Bool.and_eq_true _ _ ▸ hok k:_∧_).2;simp only [mD] at hx;simp only [wS] at hlp;have eT:((Ek k).env fns).T=(Ek k).T:=rfl;simp only [jX,eT];cases hb:opd (Ek k).T.zc σ.tm 0 f with
    | none=>simp only [hb] at hx;cases hx
    | some w =>
      simp only [hb] at hx;cases w with
      | tup ps=>cases hx
      | pt p =>
        cases p with
        | agg cs=>cases hx
        | one cc =>
          cases cc with
          | fn fid bs =>
            simp only at hx ⊢;split at hx
            case isFalse=>cases hx
            rename_i hin
            rw [if_pos hin];have:=hC _ _ k (hY.with (L:=σ.bx.length) (acw (l:=σ.bx.length) (ps:=ps.toList) (tm:=σ.tm) (ihx cur h1 hlp.1 Y YK (some σ.bx.length) k hY) (ihy cur h2 hlp.2 Y YK (some σ.bx.length) k hY))) _ _ _ _ _ hx;cases hc:iN (zq Y σ.bx.length (qJ σ.bx.length ps.toList σ.tm (jX (fun k=>(Ek k).env fns) A.an iN Y (some σ.bx.length) x k cur) (jX (fun k=>(Ek k).env fns) A.an iN Y (some σ.bx.length) y k cur))) k (.fn fid bs) [.pt (.one (.yl σ.bx.length))] (σ.bx++[.lp .normal]) with
            | none=>rw [hc] at this;cases this
            | some r =>
              rw [hc] at this;obtain ⟨r,aa⟩:=r;simp only [agC,Option.bind_some] at this;simp only;cases hb2:aa[σ.bx.length]? with
              | none=>simp only [hb2] at this;cases this
              | some B =>
                simp only [hb2] at this;cases B with
                | lp e=>exact this
                | _=>cases this
          | _=>cases hx
  | scope x ih =>
    intro cur hok hlp Y YK rl k hY σ K z hx;have hx:mD Ek A mY YK rl x k cur σ _=some z:=hx;have:=ih cur hok hlp Y YK rl k hY _ _ _ hx;show ((jX (fun k=>(Ek k).env fns) A.an iN Y rl x k cur σ).bind _).bind _=_;cases hr:jX (fun k=>(Ek k).env fns) A.an iN Y rl x k cur σ with
    | none=>rw [hr] at this;cases this
    | some r =>
      rw [hr] at this;obtain ⟨e,σ'⟩:=r;cases e with
      | goto l=>cases this
      | _=>exact this
def aeW (Ek:Nat→pV) (fns:FuncId→Option Func) (A:acY γ) (iN:Hd→Nat→kg) (fn:Func):Prop:=∀ c,fn.body=some c→(∀ k,okC ((Ek k).env fns) A.an.mv c=true)∧wS Ek fns A iN c 0
theorem yC (hC:tK iN mY) {fn:Func} (hok:aeW Ek fns A iN fn) {Y:Hd} {YK:HdK γ} (hY:abH Y YK) {k:Nat} {bs:List Nat} {ys:List AV} {bx:List Bx} {K:AV→List Bx→Option γ} {x:γ} (hx:aaM Ek A mY YK k fn bs ys bx K=some x) :
    ((wN (fun k=>(Ek k).env fns) A.an iN Y k fn bs ys bx).bind fun r=>K r.1 r.2)=some x:=by
  unfold aaM at hx;unfold wN;cases hc:fn.body with
  | none=>simp only [hc] at hx;cases hx
  | some code =>
    obtain ⟨ho,hl⟩:=hok code hc;simp only [hc] at hx;have:=tO hC code 0 ho hl Y YK none k hY _ _ _ hx;simp only;cases hr:jX (fun k=>(Ek k).env fns) A.an iN Y none code k 0 ⟨qL fn ys bs,bx⟩ with
    | none=>rw [hr] at this;cases this
    | some r =>
      rw [hr] at this;obtain ⟨e,σ⟩:=r;have fin:((vI (Ek k).T fn.results.toList σ).bind fun q=>K (mq bx.length (nQ q.1) q.2.bx).1 (mq bx.length (nQ q.1) q.2.bx).2)=some x→(Option.map (fun q=>mq bx.length (nQ q.1) q.2.bx) (vI (Ek k).T fn.results.toList σ)).bind (fun r=>K r.1 r.2)=some x:=fun h=>by
        cases hv:vI (Ek k).T fn.results.toList σ with
        | none=>rw [hv] at h;cases h
        | some r=>rw [hv] at h;exact h
      cases e with
      | normal=>exact fin this
      | ret=>exact fin this
      | _=>cases this
theorem qM {A:aev γ}:∀ (n:Nat) (yd:Nat→Option (YdK γ)),(∀ l T,yd l=some T→uE T)→(∀ m,m<n→∀ f fn,fns f=some fn→aeW Ek fns (A.at m f) (rC (fun k=>(Ek k).env fns) fns A.an m) fn∧∀ l T,A.yd m f l=some T→uE T)→tK (rC (fun k=>(Ek k).env fns) fns A.an n) (vL Ek fns A n yd)
  | 0,_,_,_=>fun Y YK k hY f ys bx K x hx=>by cases hx
  | n+1,yd,hyd,hok=>fun Y YK k hY f ys bx K x hx=>by
    unfold vL at hx;unfold rC;cases f with
    | yl l =>
      obtain ⟨hk,h1,h2⟩:=Option.bind_eq_some_iff.mp hx;obtain ⟨h,h3,h4⟩:=hY l hk h1;simp only [h3,Option.bind_some];have:=h4 ys bx _ x h2;cases hr:h ys bx with
      | none=>rw [hr] at this;cases this
      | some r=>rw [hr] at this;exact aeV hyd this
    | fn f bs =>
      obtain ⟨fn,h1,h2⟩:=Option.bind_eq_some_iff.mp hx;simp only [h1,Option.bind_some];obtain ⟨q1,q2⟩:=hok n (Nat.lt_succ_self n) f fn h1;exact yC (A:=A.at n f) (qM n _ q2 (fun m hm=>hok m (Nat.lt_succ_of_lt hm))) q1 hY h2
    | _=>cases hx
end
end
end Go.Proofs.YtongeknogcboiaaGreat.M
namespace Go.Proofs.YtongeknogcboiaaGreat.M
noncomputable section
set_option linter.unusedVariables false
set_option linter.unusedSimpArgs false
open Go.RowKit Go.Proofs.YtongeknogcboiaaGreatW.fP Go.Proofs.YtongeknogcboiaaGreatW.gK
def Ty.ag:Ty→Bool
  | .sp | .gr | .fm | .ff=>true
  | _=>false
def mkP (t:Ty) (x:t.T):Pt:=match t.cells x with
  | [c]=>.one c
  | cs=>.agg cs
def rdP (t:Ty):Pt→Option t.T
  | .one c=>if t.ag=true then none else t.of [c]
  | .agg cs=>if t.ag=true then t.of cs else none
def VW (t:Ty) (vs:List Value) (v:Value):Prop:=if t.ag=true then v=.agg vs.toArray else vs=[v]
def mZ:List Ty→Type
  | []=>Unit
  | t :: ts=>t.T × mZ ts
def kI:(ts:List Ty)→mZ ts→List AV
  | [],_=>[]
  | t :: ts,a=>.pt (mkP t a.1) :: kI ts a.2
def ng:(ts:List Ty)→List AV→Option (mZ ts)
  | [],[]=>some ()
  | t :: ts,.pt p :: ys=>match rdP t p,ng ts ys with
    | some x,some a=>some (x,a)
    | _,_=>none
  | _,_=>none
def fx1:Cell→Cell→Bool
  | .v (.int k n),.v (.int k' n')=>decide (k=k')&&decide (n=n')
  | .fn f [],.fn f' []=>Nat.beq f f'
  | _,_=>false
def fxs:List Cell→List Cell→Bool
  | [],[]=>true
  | c :: cs,d :: ds=>fx1 c d&&fxs cs ds
  | _,_=>false
theorem aeX {nb nb':Nat} {g g':Gh} {W W':World} {ℓ ℓ':Loc} {c d:Cell} {v:Value} (h:fx1 c d=true) (hc:CR nb g W ℓ c v):CR nb' g' W' ℓ' d v:=by
  unfold fx1 at h;split at h
  · simp at h
    obtain ⟨rfl,rfl⟩:=h;exact hc
  · cases Nat.eq_of_beq_eq_true h
    exact ⟨fun l hl=>by simp at hl,hc.2⟩
  · cases h
theorem acZ {nb nb':Nat} {g g':Gh} {W W':World} {loc loc':Nat→Loc}:∀ {cs ds:List Cell} {vs:List Value},fxs cs ds=true→CsR nb g W loc cs vs→CsR nb' g' W' loc' ds vs
  | [],[],vs,_,hc=>⟨hc.1,fun k c v h=>by simp at h⟩
  | [],_ :: _,vs,h,hc=>by cases h
  | _ :: _,[],vs,h,hc=>by cases h
  | c :: cs,d :: ds,[],h,hc=>by simp [CsR] at hc
  | c :: cs,d :: ds,v :: vs,h,hc=>by
    have h:(fx1 c d&&fxs cs ds)=true:=h;rw [Bool.and_eq_true] at h;obtain ⟨q1,q2⟩:=acZ (nb':=nb') (g':=g') (W':=W') (loc:=fun k=>loc (k+1)) (loc':=fun k=>loc' (k+1)) h.2 (⟨by simpa using hc.1,fun k c v h1 h2=>hc.2 (k+1) c v (by simpa using h1) (by simpa using h2)⟩:CsR nb g W (fun k=>loc (k+1)) cs vs);refine ⟨by simp [q1],fun k c' v' h1 h2 => ?_⟩;cases k with
    | zero =>
      simp at h1 h2
      subst h1;subst h2;exact aeX h.1 (hc.2 0 c v rfl rfl)
    | succ k=>exact q2 k c' v' (by simpa using h1) (by simpa using h2)
inductive RT where
  | pl (k:Ty)
  | own (e:TypeId) (t:Ty)
  | fx (cs:List Cell)
def RT.T:RT→Type
  | .pl k=>k.T
  | .own _ t=>List t.T
  | .fx _=>Unit
def RT.mk:(r:RT)→r.T→Pt
  | .pl k,x=>mkP k x
  | .own e t,xs=>.one (.ow e t xs)
  | .fx cs,_=>.agg cs
def RT.rd:(r:RT)→Pt→Option r.T
  | .pl k,p=>rdP k p
  | .own e t,.one (.ow e' t' xs)=>if e'=e then (if h:t'=t then some (h ▸ xs) else none) else none
  | .own _ _,_=>none
  | .fx cs,.agg ds=>if fxs ds cs=true then some () else none
  | .fx _,_=>none
def r9:List RT→Type
  | []=>Unit
  | [r]=>r.T
  | r :: s :: rs=>r.T × r9 (s :: rs)
def rE:(rs:List RT)→r9 rs→List Pt
  | [],_=>[]
  | [r],x=>[r.mk x]
  | r :: s :: rs,x=>r.mk x.1 :: rE (s :: rs) x.2
def zF:(rs:List RT)→List Pt→Option (r9 rs)
  | [],[]=>some ()
  | [r],[p]=>r.rd p
  | r :: s :: rs,p :: ps=>match r.rd p,zF (s :: rs) ps with
    | some x,some y=>some (x,y)
    | _,_=>none
  | _,_=>none
def zG (rs:List RT) (x:r9 rs):AV:=nQ (rE rs x)
def adQ (rs:List RT):AV→Option (r9 rs)
  | .pt p=>zF rs [p]
  | .tup ps=>if ps.length=1 then none else zF rs ps
def K0 (rs:List RT) (r:AV) (bx:List Bx):Option (r9 rs):=match bx with
  | []=>adQ rs r
  | _=>none
def jN (ts:List Ty) (rs:List RT) (F:mZ ts→Option (r9 rs)):Sm:=⟨r9 rs,fun ys=>(ng ts ys).map F,zG rs⟩
section
variable {nb nb':Nat} {g g':Gh} {W W':World} {fr d i:Nat}
theorem aeY {loc:Nat→Loc} {t:Ty}:{p:Pt}→{x:t.T}→{v:Value}→rdP t p=some x→PtR nb g W loc p v→∃ vs,t.R (lH g W) x vs∧VW t vs v
  | .one c,x,v,h,hr=>by
    simp only [rdP] at h;split at h
    · cases h
    · rename_i ha
      exact ⟨[v],Ty.aaj h (loc:=loc) ⟨rfl,fun k c' v' h1 h2=>by
        cases k with
        | zero=>simp at h1 h2;subst h1;subst h2;exact hr
        | succ k=>simp at h1⟩,by unfold VW;rw [if_neg ha]⟩
  | .agg cs,x,v,h,⟨vs,e,hr⟩=>by
    simp only [rdP] at h;split at h
    · rename_i ha
      exact ⟨vs.toList,Ty.aaj h hr,by unfold VW;rw [if_pos ha];simpa using e⟩
    · cases h
theorem adR (loc:Nat→Loc):(t:Ty)→(x:t.T)→{vs:List Value}→{v:Value}→t.R (lH g W) x vs→VW t vs v→PtR nb g W loc (mkP t x) v:=by
  intro t x vs v hR hv;have hc:=Ty.cells_ok (nb:=nb) loc t x vs hR;unfold VW at hv;have one:∀ c,t.cells x=[c]→t.ag=false→PtR nb g W loc (mkP t x) v:=fun c hc1 ha=>by
    rw [if_neg (by rw [ha];simp)] at hv;subst hv;unfold mkP;rw [hc1] at hc ⊢;exact hc.2 0 _ _ rfl rfl
  have agg:t.ag=true→(∀ c,t.cells x≠[c])→PtR nb g W loc (mkP t x) v:=fun ha hne=>by
    rw [if_pos ha] at hv;unfold mkP;split
    · rename_i c hcc;exact (hne c hcc).elim
    · exact ⟨vs.toArray,hv,by simpa using hc⟩
  cases t with
  | int k=>exact one _ rfl rfl
  | bool=>exact one _ rfl rfl
  | str=>exact one _ rfl rfl
  | sp=>exact agg rfl (fun c h=>by simp [Ty.cells] at h)
  | gr=>exact agg rfl (fun c h=>by simp [Ty.cells] at h)
  | fm=>exact agg rfl (fun c h=>by simp [Ty.cells] at h)
  | ff=>exact agg rfl (fun c h=>by simp [Ty.cells] at h)
  | sl e t=>exact one _ rfl rfl
theorem oM {g0:Gh} (h0:g0.pr=g.pr):∀ {ts:List Ty} {ys:List AV} {a:mZ ts} {vs:List Value},ng ts ys=some a→ys.length=vs.length→(∀ (i:Nat) (x:AV) (v:Value),ys[i]? = some x→vs[i]? = some v→∀ fr' i',AVR nb g W fr' i' x v) →
    (kI ts a).length=vs.length∧∀ (i:Nat) (x:AV) (v:Value),(kI ts a)[i]? = some x→vs[i]? = some v→∀ fr' i',AVR nb' g0 W fr' i' x v
  | [],[],a,vs,h,hl,hy=>⟨hl,fun i x v hx=>by simp [kI] at hx⟩
  | [],_ :: _,a,vs,h,hl,hy=>by simp [ng] at h
  | _ :: _,[],a,vs,h,hl,hy=>by simp [ng] at h
  | t :: ts,.tup ps :: ys,a,vs,h,hl,hy=>by simp [ng] at h
  | t :: ts,.pt p :: ys,a,[],h,hl,hy=>by simp at hl
  | t :: ts,.pt p :: ys,a,v :: vs,h,hl,hy=>by
    simp only [ng] at h;split at h
    case h_2=>cases h
    rename_i x b h1 h2
    cases h
    obtain ⟨q1,q2⟩:=oM h0 h2 (by simpa using hl) (fun i x v hx hv=>hy (i+1) x v (by simpa using hx) (by simpa using hv));refine ⟨by simp [kI,q1],fun i z u hz hu fr' i' => ?_⟩;cases i with
    | zero =>
      simp [kI] at hz hu
      subst hz;subst hu;obtain ⟨ws,hR,hW⟩:=aeY h1 (hy 0 _ _ rfl rfl 0 0);refine adR _ t x (Ty.kD (fun a v hc => ?_) t x ws hR) hW;exact ⟨hc.1,by rw [h0];exact hc.2⟩
    | succ i=>exact q2 i z u (by simpa [kI] using hz) (by simpa using hu) fr' i'
theorem aeZ {g2:Gh} (h0:g2.pr=g'.pr) (h2:∀ b ℓ,g'.ow b=some ℓ→g2.ow b=some ℓ) {loc:Nat→Loc}:{r:RT}→{p:Pt}→{x:r.T}→{v:Value}→r.rd p=some x→PtR 0 g' W' loc p v→PtR nb g2 W' loc (r.mk x) v
  | .pl k,p,x,v,h,hr=>by
    obtain ⟨ws,hR,hW⟩:=aeY (t:=k) h hr;exact adR _ k x (Ty.kD (fun a v hc=>⟨hc.1,by rw [h0];exact hc.2⟩) k x ws hR) hW
  | .fx cs,.one c,x,v,h,hr=>by cases h
  | .fx cs,.agg ds,x,v,h,⟨vs,e,hr⟩=>by
    simp only [RT.rd] at h;split at h
    · rename_i hf
      exact ⟨vs,e,acZ hf hr⟩
    · cases h
  | .own e k,.agg cs,x,v,h,hr=>by cases h
  | .own e k,.one c,x,v,h,hr=>by
    cases c with
    | ow e' k' xs =>
      simp only [RT.rd] at h;split at h
      case isFalse=>cases h
      rename_i he
      split at h
      case isFalse=>cases h
      rename_i hk
      subst he;subst hk;cases h;obtain ⟨h1,h3,h4⟩:=hr;have hcp:∀ a v,lH g' W' a v→lH g2 W' a v:=fun a v hc=>⟨hc.1,by rw [h0];exact hc.2⟩;exact ⟨h1.mono (k'.kD hcp) hcp,h3,fun b hb=>⟨h2 _ _ (h4 b hb).1,fun o ho=>(h4 b hb).2 o (by rw [← h0];exact ho)⟩⟩
    | _=>cases h
theorem tQ {g2:Gh} (h0:g2.pr=g'.pr) (h2:∀ b ℓ,g'.ow b=some ℓ→g2.ow b=some ℓ):∀ {rs:List RT} {ps:List Pt} {x:r9 rs} {vs:List Value} (j0:Nat),zF rs ps=some x→(∀ (j:Nat) (p:Pt) (v:Value),ps[j]? = some p→vs[j]? = some v→PtR 0 g' W' (.tm fr d (j0+j)) p v) →
    (rE rs x).length=ps.length∧∀ (j:Nat) (p:Pt) (v:Value),(rE rs x)[j]? = some p→vs[j]? = some v→PtR nb g2 W' (.tm fr d (j0+j)) p v
  | [],[],x,vs,j0,h,hp=>⟨rfl,fun j p v h1=>by simp [rE] at h1⟩
  | [],_ :: _,x,vs,j0,h,hp=>by cases h
  | [r],[p],x,vs,j0,h,hp=>⟨rfl,fun j p' v h1 hv=>by
    cases j with
    | zero =>
      simp [rE] at h1
      subst h1;exact aeZ h0 h2 h (hp 0 p v rfl hv)
    | succ j=>simp [rE] at h1⟩
  | [r],[],x,vs,j0,h,hp=>by cases h
  | [r],_ :: _ :: _,x,vs,j0,h,hp=>by cases h
  | r :: s :: rs,[],x,vs,j0,h,hp=>by cases h
  | r :: s :: rs,p :: ps,x,vs,j0,h,hp=>by
    have h:(match r.rd p,zF (s :: rs) ps with | some x,some y=>some (x,y) | _,_=>none)=some x:=h;cases h1:r.rd p with
    | none=>rw [h1] at h;cases h
    | some y =>
      cases h3:zF (s :: rs) ps with
      | none=>rw [h1,h3] at h;cases h
      | some z =>
        rw [h1,h3] at h;have e:(y,z)=x:=Option.some.inj h;obtain ⟨q1,q2⟩:=tQ h0 h2 (vs:=vs.drop 1) (j0+1) h3 (fun j p' v hp' hv=>by
          have:=hp (j+1) p' v (by simpa using hp') (by simpa [Nat.add_comm] using hv);rwa [Nat.add_assoc,Nat.add_comm 1 j])
        have em:rE (r :: s :: rs) x=r.mk y :: rE (s :: rs) z:=by rw [← e];rfl
        rw [em];refine ⟨congrArg (· + 1) q1,fun j p' v hp' hv => ?_⟩;cases j with
        | zero =>
          have e1:r.mk y=p':=Option.some.inj hp';subst e1;exact aeZ h0 h2 h1 (hp 0 p v rfl hv)
        | succ j =>
          have:=q2 j p' v hp' (by simpa [Nat.add_comm] using hv);rwa [Nat.add_assoc,Nat.add_comm 1 j] at this
theorem acy {ps:List Pt} (h:ps.length≠1):nQ ps=.tup ps:=by
  match ps with
  | []=>rfl
  | [p]=>exact (h rfl).elim
  | _ :: _ :: _=>rfl
theorem aaO {ps:List Pt} {p:Pt} (h:ps[0]? = some p) (hl:ps.length=1):nQ ps=.pt p:=by
  match ps,hl with
  | [q],_=>simp at h;subst h;rfl
theorem acz {g2:Gh} (h0:g2.pr=g'.pr) (h2:∀ b ℓ,g'.ow b=some ℓ→g2.ow b=some ℓ) {rs:List RT}:{r:AV}→{x:r9 rs}→{v:Value}→adQ rs r=some x→AVR 0 g' W' fr d r v→AVR nb g2 W' fr d (zG rs x) v
  | .pt p,x,v,h,hr=>by
    obtain ⟨q1,q2⟩:=tQ (nb:=nb) (fr:=fr) (d:=d) h0 h2 (vs:=[v]) 0 h (fun j p' v' hp' hv=>by
      cases j with
      | zero=>simp at hp' hv;subst hp';subst hv;exact hr
      | succ j=>simp at hp')
    have hl:0<(rE rs x).length:=by rw [q1];exact Nat.one_pos
    have:=q2 0 _ v (List.getElem?_eq_getElem hl) rfl;unfold zG;rw [aaO (List.getElem?_eq_getElem hl) q1];exact this
  | .tup ps,x,v,h,⟨vs,e,hl,hr⟩=>by
    simp only [adQ] at h;split at h
    · cases h
    · rename_i hne
      obtain ⟨q1,q2⟩:=tQ (nb:=nb) (fr:=fr) (d:=d) h0 h2 (vs:=vs.toList) 0 h (fun j p' v' hp' hv=>by rw [Nat.zero_add];exact hr j p' v' hp' (by simpa using hv));unfold zG;rw [acy (by rw [q1];exact hne)];exact ⟨vs,e,by rw [q1];exact hl,fun j p v hp hv=>by have:=q2 j p v hp (by simpa using hv);rwa [Nat.zero_add] at this⟩
def Gh.mix (g g':Gh) (n:Nat):Gh:={ ow:=fun b=>if b<n then g.ow b else g'.ow b,pr:=g'.pr,bx:=g.bx,lr:=g.lr,lv:=g.lv,av:=g.av }
def jK (P:Program) (f:FuncId) (s:List AV→Option AV):Prop:=∃ fn,P.funcs[f]? = some fn∧(fn.name == "runtime.NumGoroutine")=false∧fn.body.isSome=true ∧
  ∀ (nb:Nat) (g:Gh) (W:World) (fr d:Nat) (ys:List AV) (vs:Array Value) (r:AV),Wf g W→ys.length=vs.size→(∀ (i:Nat) (x:AV) (v:Value),ys[i]? = some x→vs[i]? = some v→∀ fr' i',AVR nb g W fr' i' x v)→s ys=some r →
    Calls P f vs W fun e W'=>∃ v,e=.returned v∧∃ g',Wf g' W'∧g'.lv=g.lv∧Evo (fun _=>True) nb g W g' W'∧AVR nb g' W' fr d r v
theorem adS {P:Program} {Ek:Nat→pV} {fns:FuncId→Option Func} {rs:List RT} {A:aev (r9 rs)} {n f:Nat} {fn:Func} {ts:List Ty} {F:mZ ts→Option (r9 rs)}
    (hm:P.follows .mixedOrders=true) (hT:∀ k,nG P (Ek k).T) (hS:∀ k,oV P ((Ek k).env fns)) (hF:aeO P fns) (hok:∀ m,m≤n→∀ f fn,fns f=some fn→aeW Ek fns (A.at m f) (rC (fun k=>(Ek k).env fns) fns A.an m) fn∧∀ l T,A.yd m f l=some T→uE T)
    (ab:fns f=some fn) (hb:fn.body.isSome=true)
    (h:∀ (a:mZ ts) (x:r9 rs),F a=some x→∃ k,aaM Ek (A.at n f) (vL Ek fns A n (A.yd n f)) (fun _=>none) k fn [] (kI ts a) [] (K0 rs)=some x):jK P f (jN ts rs F).s:=by
  obtain ⟨hf,hn⟩:=hF f fn ab;refine ⟨fn,hf,hn,hb,fun nb g W fr d ys vs r hw hl hy hs => ?_⟩;obtain ⟨o,ho,hr⟩:=Option.bind_eq_some_iff.mp hs;obtain ⟨a,ha,rfl⟩:=Option.map_eq_some_iff.mp ho;obtain ⟨x,hx,rfl⟩:=Option.map_eq_some_iff.mp hr;obtain ⟨k,hx2⟩:=h a x hx;obtain ⟨q1,q2⟩:=hok n (Nat.le_refl n) f fn ab;replace hx2:=yC (A:=A.at n f) (qM n _ q2 (fun m hm=>hok m (Nat.le_of_lt hm))) q1 (Y:=fun _=>none) (fun q hk h=>by cases h) hx2;obtain ⟨⟨r',bx'⟩,hd,hk⟩:=Option.bind_eq_some_iff.mp hx2;unfold K0 at hk;split at hk
  case h_2=>cases hk
  rename_i hbx
  simp only at hbx hk;subst hbx;obtain ⟨q1,q2⟩:=oM (nb':=0) (g:=g) (W:=W) (g0:={ ow:=fun _=>none,pr:=g.pr,bx:=g.bx,lr:=g.lr,lv:=fun _=>False,av:=g.av }) rfl ha (vs:=vs.toList) (by simpa using hl) (fun i x v hx hv=>hy i x v hx (by simpa using hv));obtain ⟨_,aa⟩:=aaH (fr:=fr) hm hT hS (yw (adJ:=A.an) hm hT hS hF n) hf (g:={ ow:=fun _=>none,pr:=g.pr,bx:=g.bx,lr:=g.lr,lv:=fun _=>False,av:=g.av }) (W:=W) (bx:=[]) (vs:=vs) (fun q h hq=>by cases hq) ⟨hw.pr,fun b ℓ e=>by cases e⟩ (fun l B hB=>by simp at hB) (fun l _ h=>h) (fun l hl=>by simp at hl) (by simpa using q1) (fun i x v hx hv=>q2 i x v hx (by simpa using hv)) hd d;rw [show vs++(([]:List Nat).map fun l=>Value.pointer (some ⟨g.bx l,0,none⟩)).toArray=vs by simp] at aa;refine aa.mono ?_;rintro e W' ⟨v,rfl,g',k1,k2,k3,k4,k5,k6⟩;have hnone:∀ b,b<W.heap.size→g'.ow b=none:=fun b hb=>(k5.far b hb (fun ℓ e=>by cases e)).2.1;have ac:AVR nb (g.mix g' W.heap.size) W' fr d (zG rs x) v:=acz (g':=g') (g2:=g.mix g' W.heap.size) rfl (fun b ℓ hb=>by
    show (if b<W.heap.size then g.ow b else g'.ow b)=_;split
    · rename_i hlt;rw [hnone b hlt] at hb;cases hb
    · exact hb) hk k6
  refine ⟨v,rfl,g.mix g' W.heap.size,⟨k1.pr,fun b ℓ hb => ?_⟩,rfl,⟨k5.os,k5.tape,k5.output,k5.size,k5.keep,fun b hb _ => ?_,fun l _ hv=>⟨hv,rfl,rfl,rfl⟩⟩,ac⟩
  · have hb:(if b<W.heap.size then g.ow b else g'.ow b)=some ℓ:=hb
    split at hb
    · rename_i hlt;exact Nat.lt_of_lt_of_le hlt k5.size
    · exact k1.ow b ℓ hb
  · obtain ⟨f1,f2,f3⟩:=k5.far b hb (fun ℓ e=>by cases e)
    exact ⟨f1,if_pos hb,f3⟩
theorem acA {P:Program} {E:pV} {fns:FuncId→Option Func} (hN:∀ f,E.nw f=true→vw P f) (h:∀ f m,E.sm f=some m→jK P f m.s):oV P (E.env fns):=⟨hN,fun f s hs=>by
  obtain ⟨m,hm,rfl⟩:=Option.map_eq_some_iff.mp hs;exact h f m hm⟩
end
end
end Go.Proofs.YtongeknogcboiaaGreat.M

/- Lemmas for laws of chapter 7: what the functions that they reach compute. No condition of its own. -/
import Derived.Test.YtcomnjodjijcmaaGreatYE3
import Derived.Maps.AppendAt
import Derived.ArgAppend
import Derived.Great.BuildSlice
namespace Go.Proofs.YtcomnjodjijcmaaGreat.M
noncomputable section
set_option linter.unusedVariables false
set_option linter.unusedSimpArgs false
open Go.RowKit Go.Proofs.YtcomnjodjijcmaaGreatW.dz Go.Proofs.YtcomnjodjijcmaaGreatW.dX
def put (tm:List AV) (d:Option Nat) (x:AV):List AV:=match d with
  | some d=>tm.set d x
  | none=>tm
section
variable {P:Program} {T:Tb} {nb:Nat} {g:Gh} {W:World} {fr:Nat} {σ:St} {a:Act}
theorem FrR.put {tm:List AV} (h:FrR nb g W fr tm a.tmps) {d:Option Nat} {x:AV} {v:Value} (hx:∀ d',d=some d'→AVR nb g W fr d' x v):FrR nb g W fr (put tm d x) (a.put d v).tmps:=by
  cases d with
  | none=>exact h
  | some d =>
    refine ⟨by simp only [M.put,Act.put,List.length_set,Array.size_setIfInBounds];exact h.1,fun i y u hy hu => ?_⟩;simp only [M.put,Act.put] at hy hu;rw [List.getElem?_set] at hy;rw [Array.getElem?_setIfInBounds] at hu;by_cases e:d=i
    · subst e
      rw [if_pos rfl] at hy hu;split at hy
      · rename_i hlt
        rw [if_pos (by rw [← h.1];exact hlt)] at hu;cases hy;cases hu;exact hx d rfl
      · cases hy
    · rw [if_neg e] at hy hu
      exact h.2 i y u hy hu
theorem Rel.put (h:Rel fr g W σ a.tmps) {d:Option Nat} {x:AV} {v:Value} (hx:∀ d',d=some d'→AVR σ.bx.length g W fr d' x v):Rel fr g W ⟨put σ.tm d x,σ.bx⟩ (a.put d v).tmps :=
  ⟨h.wf,h.fr.put hx,h.bx,h.top⟩
theorem CR.free {f:Loc→Loc} {ℓ ℓ':Loc}:{c:Cell}→{u:Value}→c.owned=false→CR nb g W ℓ c u→CR nb (g.ren f) W ℓ' c u
  | .v _,_,_,h=>h
  | .sl _ _,_,_,h=>h
  | .ar _ _ _,_,_,h=>h
  | .ae _ _ _ _,_,_,h=>h
  | .mh _,_,_,h=>h
  | .bp _ _,_,_,h=>h
  | .ep _ _ _,_,_,h=>h
  | .fn _ _,_,_,h=>h
  | .yl _,_,_,h=>h
  | .ud,_,_,h=>h
  | .no,_,_,h=>h
theorem CsR.ren {f:Loc→Loc} {loc loc':Nat→Loc} {cs:List Cell} {vs:List Value} (hf:∀ k,k<cs.length→f (loc k)=loc' k) (h:CsR nb g W loc cs vs):CsR nb (g.ren f) W loc' cs vs :=
  ⟨h.1,fun k c v hc hv=>by rw [← hf k (List.getElem?_eq_some_iff.1 hc).1];exact (h.2 k c v hc hv).ren⟩
theorem PtR.ren {f:Loc→Loc} {loc loc':Nat→Loc} (hf:∀ k,f (loc k)=loc' k):{p:Pt}→{u:Value}→PtR nb g W loc p u→PtR nb (g.ren f) W loc' p u
  | .one _,_,h=>by have:=CR.ren (f:=f) h;rw [hf 0] at this;exact this
  | .agg _,_,⟨vs,e,r⟩=>⟨vs,e,r.ren (fun k _=>hf k)⟩
theorem AVR.ren {f:Loc→Loc} {fr' i i':Nat} (hf:∀ j k,f (.tm fr i j k)=.tm fr' i' j k):{x:AV}→{u:Value}→AVR nb g W fr i x u→AVR nb (g.ren f) W fr' i' x u
  | .pt _,_,h=>PtR.ren (hf 0) h
  | .tup _,_,⟨vs,e,l,r⟩=>⟨vs,e,l,fun j p v hp hv=>(r j p v hp hv).ren (hf j)⟩
theorem CsR.ny {f:Loc→Loc} {loc loc':Nat→Loc} {cs:List Cell} {vs:List Value} (h:CsR nb g W loc cs vs):CsR nb (g.ren f) W loc' (cs.map Cell.un) vs :=
  ⟨by rw [List.length_map];exact h.1,fun k c v hc hv=>by
    rw [List.getElem?_map] at hc;obtain ⟨c0,h0,rfl⟩:=Option.map_eq_some_iff.mp hc;exact CR.free (Cell.lW c0) (CR.un (ℓ':=loc k) (h.2 k c0 v h0 hv))⟩
theorem PtR.ny {f:Loc→Loc} {loc loc':Nat→Loc}:{p:Pt}→{u:Value}→PtR nb g W loc p u→PtR nb (g.ren f) W loc' p.un u
  | .one c,_,h=>CR.free (Cell.lW c) (CR.un (ℓ':=loc 0) h)
  | .agg _,_,⟨vs,e,r⟩=>⟨vs,e,r.ny⟩
theorem AVR.ny {f:Loc→Loc} {fr i fr' i':Nat}:{x:AV}→{u:Value}→AVR nb g W fr i x u→AVR nb (g.ren f) W fr' i' x.un u
  | .pt _,_,h=>PtR.ny h
  | .tup ps,_,⟨vs,e,l,r⟩=>⟨vs,e,by rw [List.length_map];exact l,fun j p v hp hv=>by
    rw [List.getElem?_map] at hp;obtain ⟨p0,h0,rfl⟩:=Option.map_eq_some_iff.mp hp;exact (r j p0 v h0 hv).ny⟩
theorem nR.ren {f:Loc→Loc} {bx:List Bx} (hf:∀ l k,f (.bc l k)=.bc l k) (hg:∀ l,f (.bx l)=.bx l) (h:nR g W bx):nR (g.ren f) W bx:=fun l B hB=>by
  have hb:=h l B hB;cases B with
  | box t cs =>
    obtain ⟨h0,h1,h2,vs,h3,h4,h5⟩:=hb;exact ⟨h0,by show (g.ow (g.bx l)).map f=_;rw [h1,Option.map_some,hg],h2,vs,h3,h4.ren (fun k _=>hf l k),h5⟩
  | lp e =>
    obtain ⟨h0,h1,h2,h3⟩:=hb;exact ⟨h0,by show (g.ow (g.bx l)).map f=_;rw [h1,Option.map_some,hg],h2,h3⟩
  | lpb =>
    obtain ⟨h0,h1,h2,h3⟩:=hb;exact ⟨h0,by show (g.ow (g.bx l)).map f=_;rw [h1,Option.map_some,hg],h2,h3⟩
  | arr e t xs =>
    obtain ⟨h0,h1⟩:=hb;have:=CR.ren (f:=f) (show CR bx.length g W (.bx l) (.mu e t xs) (g.av l) from h1);rw [hg] at this;exact ⟨h0,this⟩
  | mi xs =>
    obtain ⟨h0,h1,h2⟩:=hb;exact ⟨h0,by show (g.ow (g.bx l)).map f=_;rw [h1,Option.map_some,hg],h2⟩
  | gone=>exact hb
  | no=>exact hb
theorem set_self {α:Type} {l:List α} {i:Nat} {x:α} (h:l[i]? = some x):l.set i x=l:=by
  apply List.ext_getElem?
  intro j;rw [List.getElem?_set];by_cases e:i=j
  · subst e
    rw [if_pos rfl,if_pos (List.getElem?_eq_some_iff.1 h).1,h]
  · rw [if_neg e]
def moveA (σ:St) (s d:Nat):Option St:=(σ.tm[s]?).map fun x=>if s=d then σ else ⟨(σ.tm.set s x.un).set d x,σ.bx⟩
def fA (fr s d:Nat):Loc→Loc
  | .tm f i j k=>if f=fr∧i=s then .tm fr d j k else .tm f i j k
  | ℓ=>ℓ
theorem acd {fr s d:Nat}:∀ ℓ:Loc,ℓ.below fr→fA fr s d ℓ=ℓ
  | .tm f i j k,h=>by
    have h:f<fr:=h;show (if f=fr∧i=s then _ else _)=_;rw [if_neg (by omega)]
  | .bc _ _,_=>rfl
  | .bx _,_=>rfl
  | .rs _ _,_=>rfl
theorem xA (h:Rel fr g W σ a.tmps) {s d:Nat} {σ':St} (hm:moveA σ s d=some σ'):∃ g',Rel fr g' W σ' (a.put (some d) (a.eval (.tmp s))).tmps∧Evo (Loc.below fr) σ.bx.length g W g' W∧σ'.bx=σ.bx:=by
  obtain ⟨x,hx,rfl⟩:=Option.map_eq_some_iff.mp hm;by_cases e:s=d
  · rw [if_pos e]
    subst e;have:=h.put (d:=some s) (x:=x) (v:=a.eval (.tmp s)) (fun d' e=>by cases e;exact h.tmp hx);refine ⟨g,?_,Evo.refl _ _ _ _,rfl⟩;have e2:put σ.tm (some s) x=σ.tm:=by
      simp only [M.put];exact set_self hx
    rw [e2] at this;exact this
  · rw [if_neg e]
    refine ⟨g.ren (fA fr s d),⟨h.wf.ren,?_,h.bx.ren (fun _ _=>rfl) (fun _=>rfl),h.top⟩,Evo.ren acd,rfl⟩;refine ⟨by simp only [List.length_set,Act.put,Array.size_setIfInBounds];exact h.fr.1,fun i y u hy hu => ?_⟩;simp only [Act.put] at hu;rw [Array.getElem?_setIfInBounds] at hu;simp only [List.getElem?_set] at hy;by_cases e1:d=i
    · subst e1
      rw [if_pos rfl] at hy hu;split at hy
      · rename_i hlt
        rw [if_pos (by rw [← h.fr.1];simpa using hlt)] at hu;cases hy;cases hu;exact (h.tmp hx).ren (fun j k=>by show (if fr=fr∧s=s then _ else _)=_;rw [if_pos ⟨rfl,rfl⟩])
      · cases hy
    · rw [if_neg e1] at hy hu
      by_cases e2:s=i
      · subst e2
        rw [if_pos rfl] at hy;split at hy
        · cases hy
          exact (h.fr.2 s x u hx hu).ny
        · cases hy
      · rw [if_neg e2] at hy
        exact (h.fr.2 i y u hy hu).ren (fun j k=>by show (if fr=fr∧i=s then _ else _)=_;rw [if_neg (by omega)])
def moveB (σ:St) (s i d:Nat):Option St:=match σ.tm[s]? with
  | some (.tup ps)=>(ps[i]?).map fun p=>⟨(σ.tm.set s (.tup (ps.set i p.un))).set d (.pt p),σ.bx⟩
  | _=>none
def fB (fr s i d:Nat):Loc→Loc
  | .tm f i' j k=>if f=fr∧i'=s∧j=i then .tm fr d 0 k else .tm f i' j k
  | ℓ=>ℓ
theorem ace {fr s i d:Nat}:∀ ℓ:Loc,ℓ.below fr→fB fr s i d ℓ=ℓ
  | .tm f i' j k,h=>by
    have h:f<fr:=h;show (if f=fr∧i'=s∧j=i then _ else _)=_;rw [if_neg (by omega)]
  | .bc _ _,_=>rfl
  | .bx _,_=>rfl
  | .rs _ _,_=>rfl
theorem acf (h:Rel fr g W σ a.tmps) {s i d:Nat} (hsd:s≠d) {σ':St} (hm:moveB σ s i d=some σ'):∃ vs v g',a.eval (.tmp s)=.tuple vs∧vs[i]? = some v∧Rel fr g' W σ' (a.put (some d) v).tmps∧Evo (Loc.below fr) σ.bx.length g W g' W∧σ'.bx=σ.bx:=by
  unfold moveB at hm;split at hm
  case h_2=>cases hm
  rename_i ps hx
  obtain ⟨p,hp,rfl⟩:=Option.map_eq_some_iff.mp hm;obtain ⟨vs,ev,hl,hr⟩:=h.tmp hx;have hlt:i<vs.size:=by rw [← hl];exact (List.getElem?_eq_some_iff.1 hp).1
  have hv:vs[i]? = some vs[i]:=by simp [hlt]
  refine ⟨vs,vs[i],g.ren (fB fr s i d),ev,hv,⟨h.wf.ren,?_,h.bx.ren (fun _ _=>rfl) (fun _=>rfl),h.top⟩,Evo.ren ace,rfl⟩;refine ⟨by simp only [List.length_set,Act.put,Array.size_setIfInBounds];exact h.fr.1,fun i' y u hy hu => ?_⟩;simp only [Act.put] at hu;rw [Array.getElem?_setIfInBounds] at hu;simp only [List.getElem?_set] at hy;by_cases e1:d=i'
  · subst e1
    rw [if_pos rfl] at hy hu;split at hy
    · rename_i hlt'
      rw [if_pos (by rw [← h.fr.1];simpa using hlt')] at hu;cases hy;cases hu;exact (hr i p _ hp hv).ren (fun k=>by show (if fr=fr∧s=s∧i=i then _ else _)=_;rw [if_pos ⟨rfl,rfl,rfl⟩])
    · cases hy
  · rw [if_neg e1] at hy hu
    by_cases e2:s=i'
    · subst e2
      rw [if_pos rfl] at hy;split at hy
      case isFalse=>cases hy
      cases hy
      obtain ⟨vs',ev',hl',hr'⟩:=h.fr.2 s _ u hx hu;refine ⟨vs',ev',by simp only [List.length_set];exact hl',fun j q w hq hw => ?_⟩;rw [List.getElem?_set] at hq;by_cases e3:i=j
      · subst e3
        rw [if_pos rfl] at hq;split at hq
        · cases hq
          exact (hr' i p w hp hw).ny
        · cases hq
      · rw [if_neg e3] at hq
        exact (hr' j q w hq hw).ren (fun k=>by show (if fr=fr∧s=s∧j=i then _ else _)=_;rw [if_neg (by omega)])
    · rw [if_neg e2] at hy
      exact (h.fr.2 i' y u hy hu).ren (fun j k=>by show (if fr=fr∧i'=s∧j=i then _ else _)=_;rw [if_neg (by omega)])
end
end
end Go.Proofs.YtcomnjodjijcmaaGreat.M
namespace Go.Proofs.YtcomnjodjijcmaaGreat.M
noncomputable section
set_option linter.unusedVariables false
set_option linter.unusedSimpArgs false
open Go.RowKit Go.Proofs.YtcomnjodjijcmaaGreatW.dz Go.Proofs.YtcomnjodjijcmaaGreatW.dX
section
variable {P:Program} {T:Tb} {nb:Nat} {g:Gh} {W:World} {fr:Nat} {σ:St} {a:Act}
def Gh.var (g:Gh) (l b:Nat) (r:Loop):Gh:={ g with ow:=fun x=>if x=b then some (.bx l) else g.ow x,bx:=fun x=>if x=l then b else g.bx x,lr:=fun x=>if x=l then r else g.lr x,lv:=fun x=>x=l∨g.lv x }
theorem kK {W:World} {o:Obj} {b o':Nat} {v:Value} (h:W.cell? ⟨b,o',none⟩=some v):(W.alloc o).cell? ⟨b,o',none⟩=some v:=by
  rw [World.cell?_alloc_lt]
  · exact h
  · exact World.block_lt_of_cell? W _ h
theorem Evo.var {A:Loc→Prop} (hw:Wf g W) {l:Nat} {r:Loop} (hl:¬ g.lv l) (o:Obj):Evo A nb g W (g.var l W.heap.size r) (W.alloc o) :=
  have hne:∀ l',g.lv l'→l'≠l:=fun l' hv e=>hl (e ▸ hv)
  ⟨rfl,rfl,rfl,by simp,fun b o' hp=>⟨hp,fun v hv=>kK hv⟩,fun b hb _=>⟨Below.heap_alloc _ _ _ hb,by
    show (if b=W.heap.size then _ else _)=_;rw [if_neg (by omega)],fun _ h=>h⟩,fun l' _ hv=>⟨.inr hv,by
    show (if l'=l then _ else _)=_;rw [if_neg (hne l' hv)],by
    show (if l'=l then _ else _)=_;rw [if_neg (hne l' hv)],rfl⟩⟩
theorem Wf.var (hw:Wf g W) {l:Nat} {r:Loop} {o:Obj}:Wf (g.var l W.heap.size r) (W.alloc o) :=
  ⟨fun b o' hp=>by have:=hw.pr b o' hp;simp;omega,fun b ℓ h=>by
    simp only [Gh.var] at h;split at h
    · simp;omega
    · have:=hw.ow b ℓ h;simp;omega⟩
theorem BxR.evo {A:Loc→Prop} {nb nb':Nat} {g g':Gh} {W W':World} (h:Evo A nb g W g' W') (hn:nb≤nb') (hw:Wf g W) {l:Nat} (hl:l<nb) (hA:∀ k,A (.bc l k)) (hB:A (.bx l)) (hv:g'.lv l→g.lv l):{B:Bx}→BxR nb g W l B→BxR nb' g' W' l B
  | .box t cs,⟨h0,h1,h2,vs,h3,h4,h5⟩=>by
    obtain ⟨v1,v2,v3,_⟩:=h.bx l hl h0;obtain ⟨f1,f2,f3⟩:=h.far (g.bx l) (hw.ow _ _ h1) (fun ℓ e=>by rw [h1] at e;cases e;exact hB);refine ⟨v1,?_,?_,vs,?_,⟨h4.1,fun k c v hc hv=>CR.evo h hn (h4.2 k c v hc hv) (fun _=>hA k)⟩,h5⟩
    · rw [v2,f2];exact h1
    · rw [v2];exact fun o ho=>h2 o (f3 o ho)
    · rw [v2,f1];exact h3
  | .lp e,⟨h0,h1,h2,h3⟩=>by
    obtain ⟨v1,v2,v3,_⟩:=h.bx l hl h0;obtain ⟨f1,f2,f3⟩:=h.far (g.bx l) (hw.ow _ _ h1) (fun ℓ e=>by rw [h1] at e;cases e;exact hB);refine ⟨v1,?_,?_,?_⟩
    · rw [v2,f2];exact h1
    · rw [v2];exact fun o ho=>h2 o (f3 o ho)
    · rw [v2,v3,f1];exact h3
  | .lpb,⟨h0,h1,h2,h3⟩=>by
    obtain ⟨v1,v2,v3,_⟩:=h.bx l hl h0;obtain ⟨f1,f2,f3⟩:=h.far (g.bx l) (hw.ow _ _ h1) (fun ℓ e=>by rw [h1] at e;cases e;exact hB);refine ⟨v1,?_,?_,?_⟩
    · rw [v2,f2];exact h1
    · rw [v2];exact fun o ho=>h2 o (f3 o ho)
    · rw [v2,v3,f1];exact h3
  | .arr e t xs,⟨h0,h1⟩=>by
    obtain ⟨v1,v2,v3,v4⟩:=h.bx l hl h0;refine ⟨v1,?_⟩;rw [v4];exact CR.evo h hn (c:=.mu e t xs) h1 (fun _=>hB)
  | .mi xs,⟨h0,h1,h2,es,ck,h3,h4⟩=>by
    obtain ⟨v1,v2,v3,_⟩:=h.bx l hl h0;obtain ⟨f1,f2,f3⟩:=h.far (g.bx l) (hw.ow _ _ h1) (fun ℓ e=>by rw [h1] at e;cases e;exact hB);refine ⟨v1,?_,?_,es,ck,?_,h4⟩
    · rw [v2,f2];exact h1
    · rw [v2];exact fun o ho=>h2 o (f3 o ho)
    · rw [v2,f1];exact h3
  | .gone,h0=>(h.bx l hl h0).1
  | .no,h=>fun h'=>h (hv h')
theorem aga {i l off:Nat} (hl:l<nb) (hv:g.lv l):AVR nb g W fr i (.pt (.one (.bp l off))) (.pointer (some ⟨g.bx l,off,none⟩)):=⟨⟨hl,hv⟩,rfl⟩
theorem Rel.var (h:Rel fr g W σ a.tmps) {l:Nat} (hl:σ.bx[l]? = some .no) {t:TypeId} {cs:List Cell} {vs:Array Value} (hcs:∀ loc,CsR σ.bx.length g W loc cs vs.toList) (h1:∀ v∈vs.toList,v.oneCell'=true) (d:Option Nat) :
    ∃ g',Rel fr g' (W.alloc (.cells vs t)) ⟨M.put σ.tm d (.pt (.one (.bp l 0))),σ.bx.set l (.box t cs)⟩ (a.put d (.pointer (some ⟨W.heap.size,0,none⟩))).tmps∧Evo (fun _=>True) σ.bx.length g W g' (W.alloc (.cells vs t)):=by
  have hlv:¬ g.lv l:=h.bx l _ hl;have hlt:l<σ.bx.length:=(List.getElem?_eq_some_iff.1 hl).1;have hev:Evo (fun _=>True) σ.bx.length g W (g.var l W.heap.size (g.lr l)) (W.alloc (.cells vs t)):=Evo.var h.wf hlv _;have hbl:(g.var l W.heap.size (g.lr l)).bx l=W.heap.size:=by show (if l=l then _ else _)=_;rw [if_pos rfl]
  have hwf:=h.wf.var (l:=l) (r:=g.lr l) (o:=.cells vs t);refine ⟨g.var l W.heap.size (g.lr l),?_,hev⟩;have hlen:(σ.bx.set l (.box t cs)).length=σ.bx.length:=List.length_set;constructor
  · exact hwf
  · show FrR (σ.bx.set l (.box t cs)).length _ _ _ _ _
    rw [hlen];refine (h.fr.evo hev (Nat.le_refl _) (fun _ _ _=>trivial)).put (fun d' e=>by
      have:=aga (nb:=σ.bx.length) (g:=g.var l W.heap.size (g.lr l)) (W:=W.alloc (.cells vs t)) (fr:=fr) (i:=d') (off:=0) hlt (.inl rfl);rw [hbl] at this;exact this)
  · intro l' B hB
    show BxR (σ.bx.set l (.box t cs)).length _ _ _ _;rw [hlen];simp only [List.getElem?_set] at hB;by_cases e:l=l'
    · subst e
      rw [if_pos rfl,if_pos hlt] at hB;cases hB;refine ⟨.inl rfl,?_,?_,vs,?_,⟨(hcs (.bc l)).1,fun k c v hc hv=>CR.evo hev (Nat.le_refl _) ((hcs (.bc l)).2 k c v hc hv) (fun _=>trivial)⟩,h1⟩
      · rw [hbl];show (if W.heap.size=W.heap.size then _ else _)=_;rw [if_pos rfl]
      · rw [hbl];exact fun o ho=>by have:=h.wf.pr _ _ ho;omega
      · rw [hbl];exact heap_alloc_new _ _
    · rw [if_neg e] at hB
      exact BxR.evo hev (Nat.le_refl _) h.wf (List.getElem?_eq_some_iff.1 hB).1 (fun _=>trivial) trivial (fun hv=>hv.resolve_left (fun e'=>e e'.symm)) (h.bx l' B hB)
  · intro l' hl' hv
    simp only [hlen] at hl';rcases hv with rfl | hv
    · omega
    · exact h.top l' hl' hv
end
end
end Go.Proofs.YtcomnjodjijcmaaGreat.M
namespace Go.Proofs.YtcomnjodjijcmaaGreat.M
noncomputable section
set_option linter.unusedVariables false
set_option linter.unusedSimpArgs false
open Go.RowKit Go.Proofs.YtcomnjodjijcmaaGreatW.dz Go.Proofs.YtcomnjodjijcmaaGreatW.dX
section
variable {P:Program} {T:Tb} {nb:Nat} {g:Gh} {W:World} {fr:Nat} {σ:St} {a:Act}
theorem rY {W:World} {b o:Nat} {v:Value} {vs:Array Value} {t:TypeId} {z:Nat × Nat} (h:W.heap[b]? = some (.cells vs t z)):(W.setCell ⟨b,o,none⟩ v).heap[b]? = some (.cells (vs.setIfInBounds o v) t z):=by
  simp only [World.setCell,Array.getElem?_modify,if_true,h,Option.map_some];rfl
theorem kG (b:Nat) (t:TypeId) (z:Nat × Nat):∀ (us:List Value) (o:Nat) (W:World) (vs:Array Value),W.heap[b]? = some (.cells vs t z) →
    ∃ vs':Array Value,(W.setCells b o us).heap[b]? = some (.cells vs' t z)∧vs'.size=vs.size∧∀ k,k<vs.size→vs'[k]? = if o≤k∧k<o+us.length then us[k - o]? else vs[k]?
  | [],o,W,vs,h=>⟨vs,h,rfl,fun k hk=>(if_neg (by intro hh;simp at hh;omega)).symm⟩
  | u :: r,o,W,vs,h=>by
    obtain ⟨vs',h1,h2,h3⟩:=kG b t z r (o+1) (W.setCell ⟨b,o,none⟩ u) (vs.setIfInBounds o u) (rY h);refine ⟨vs',h1,by rw [h2];simp,fun k hk => ?_⟩;rw [h3 k (by simpa using hk)];by_cases e:k=o
    · subst e
      rw [if_neg (by omega),if_pos (by simp)];simp [hk]
    · by_cases e2:o+1≤k∧k<o+1+r.length
      · rw [if_pos e2,if_pos (by simp;omega),show k - o=(k - (o+1))+1 by omega,List.getElem?_cons_succ]
      · rw [if_neg e2,if_neg (by simp;omega),Array.getElem?_setIfInBounds,if_neg (by omega)]
theorem jC (b:Nat):∀ (us:List Value) (o:Nat) (W:World) (k:Nat),k≠b→(W.setCells b o us).heap[k]? = W.heap[k]?
  | [],_,_,_,_=>rfl
  | u :: r,o,W,k,h=>by
    show ((W.setCell ⟨b,o,none⟩ u).setCells b (o+1) r).heap[k]? = _;rw [jC b r _ _ k h,Below.heap_setCell _ _ _ _ h]
theorem kW (b:Nat):∀ (us:List Value) (o:Nat) (W:World),(W.setCells b o us).os=W.os∧(W.setCells b o us).tape=W.tape∧(W.setCells b o us).output=W.output∧(W.setCells b o us).heap.size=W.heap.size
  | [],_,_=>⟨rfl,rfl,rfl,rfl⟩
  | u :: r,o,W=>by
    obtain ⟨h1,h2,h3,h4⟩:=kW b r (o+1) (W.setCell ⟨b,o,none⟩ u);exact ⟨h1,h2,h3,by show ((W.setCell ⟨b,o,none⟩ u).setCells b (o+1) r).heap.size=_;rw [h4];simp⟩
theorem kL {t:TypeId} {n b o:Nat} {v:Value} {vs:Array Value} {t':TypeId} (hi:(P.info? t).map (·.size)=some n) (hn:v.cells.size=n) (hh:W.heap[b]? = some (.cells vs t' (0,0))) (ho:o+n≤vs.size) (h1:∀ u∈v.cells.toList,u.oneCell'=true) :
    (Instr.storeAt t (.pointer (some ⟨b,o,none⟩)) v).run P W=.ok () (W.setCells b o v.cells.toList):=by
  obtain ⟨i,hi1,hi2⟩:=Option.map_eq_some_iff.mp hi;have:=run_storeCells_cells (P:=P) b o v.cells.toList 0 W (fun j hj=>by
      have:o+j<vs.size:=by simp at hj;omega
      simp only [World.cell?,hh];simp [this]) (fun j hj=>by simp [World.frozen?,hh]) h1
  simp only [Nat.add_zero] at this;simp [Instr.storeAt,Instr.sureAddr,storeVar,sizeOf,typeInfo,hi1,hi2,hn,this]
def pR (T:Tb) (tm:List AV) (t:TypeId):Operand→Option AV
  | .tmp s=>tm[s]?
  | x=>opd T.zc tm t x
def nT (tm:List AV):Operand→Pt→List AV
  | .tmp s,y=>tm.set s (.pt y.un)
  | _,_=>tm
def pU (T:Tb) (σ:St) (t:TypeId) (p:Operand) (x:Operand):Option St :=
  match opd T.zc σ.tm 0 p,T.sh t,pR T σ.tm t x with
  | some (.pt (.one (.bp l off))),some (ag,n),some (.pt y)=>match σ.bx[l]? with
    | some (.box t' cs)=>if y.isAgg=ag∧y.cells.length=n∧y.cells.all Cell.good=true∧off+n≤cs.length then
        some ⟨nT σ.tm x y,σ.bx.set l (.box t' (splice cs off y.cells))⟩ else none
    | _=>none
  | _,_,_=>none
def fC (fr s l off:Nat):Loc→Loc
  | .tm f i j k=>if f=fr∧i=s∧j=0 then .bc l (off+k) else .tm f i j k
  | ℓ=>ℓ
theorem acg {fr s l off:Nat}:∀ ℓ:Loc,ℓ.below fr→fC fr s l off ℓ=ℓ
  | .tm f i' j k,h=>by
    have h:f<fr:=h;show (if f=fr∧i'=s∧j=0 then _ else _)=_;rw [if_neg (by omega)]
  | .bc _ _,_=>rfl
  | .bx _,_=>rfl
  | .rs _ _,_=>rfl
theorem ach {tm:List AV} {bx:List Bx} {ta:Array Value} (h:Rel fr g W ⟨tm,bx⟩ ta) {l off:Nat} {t':TypeId} {cs ys:List Cell} {us:List Value} (hl:bx[l]? = some (.box t' cs)) (hoff:off+ys.length≤cs.length) (hy:CsR bx.length g W (fun k=>.bc l (off+k)) ys us) (h1:∀ u∈us,u.oneCell'=true) :
    Rel fr g (W.setCells (g.bx l) off us) ⟨tm,bx.set l (.box t' (splice cs off ys))⟩ ta∧Evo (Loc.below fr) bx.length g W g (W.setCells (g.bx l) off us):=by
  have hlt:l<bx.length:=(List.getElem?_eq_some_iff.1 hl).1;obtain ⟨b0,b1,b2,vs,b3,b4,b5⟩:=h.bx l _ hl;obtain ⟨r1,r2,r3,r4⟩:=kW (g.bx l) us off W;have hev:Evo (fun ℓ=>ℓ≠.bx l) bx.length g W g (W.setCells (g.bx l) off us) :=
    ⟨r1,r2,r3,by rw [r4];exact Nat.le_refl _,fun b o hp=>⟨hp,fun v hv=>by
      have hne:b≠g.bx l:=fun e=>b2 o (e ▸ hp);rw [World.cell?_of_block (jC _ _ _ _ _ hne)];exact hv⟩,fun b hb ho=>⟨jC _ _ _ _ _ (fun e=>ho (.bx l) (e ▸ b1) rfl),rfl,fun _ h=>h⟩,fun _ _ hv=>⟨hv,rfl,rfl,rfl⟩⟩
  refine ⟨⟨⟨fun b o hp=>by rw [r4];exact h.wf.pr b o hp,fun b ℓ hb=>by rw [r4];exact h.wf.ow b ℓ hb⟩,?_,?_,?_⟩,hev.weaken (fun ℓ hb e=>by subst e;exact hb) (Nat.le_refl _)⟩
  · show FrR (bx.set l _).length _ _ _ _ _
    rw [List.length_set];exact h.fr.evo hev (Nat.le_refl _) (fun _ _ _ e=>by cases e)
  · intro l' B hB
    show BxR (bx.set l _).length _ _ _ _;rw [List.length_set];simp only [List.getElem?_set] at hB;by_cases e:l=l'
    · subst e
      rw [if_pos rfl,if_pos hlt] at hB;cases hB;obtain ⟨vs',c1,c2,c3⟩:=kG (g.bx l) t' (0,0) us off W vs b3;have hlen:cs.length=vs.size:=by rw [b4.1];simp
      refine ⟨b0,b1,b2,vs',c1,⟨by rw [jG hoff];simp;omega,fun k c v hc hv => ?_⟩,fun v hv => ?_⟩
      · rw [jN hoff] at hc
        have hk:k<vs.size:=by
          have:=(List.getElem?_eq_some_iff.1 hv).1;simp at this;omega
        have hv':vs'[k]? = some v:=by simpa using hv
        rw [c3 k hk,← hy.1] at hv';split at hc
        · rename_i hr
          rw [if_pos hr] at hv';have:CR _ _ _ (.bc l (off+(k - off))) c v:=CR.evo hev (Nat.le_refl _) (hy.2 (k - off) c v hc hv') (fun _ e=>by cases e);rw [show off+(k - off)=k by omega] at this;exact this
        · rename_i hr
          rw [if_neg hr] at hv';exact CR.evo hev (Nat.le_refl _) (b4.2 k c v hc (by simpa using hv')) (fun _ e=>by cases e)
      · obtain ⟨k,hk⟩:=List.getElem?_of_mem hv
        have hk':k<vs.size:=by
          have:=(List.getElem?_eq_some_iff.1 hk).1;simp at this;omega
        have hv':vs'[k]? = some v:=by simpa using hk
        rw [c3 k hk'] at hv';split at hv'
        · exact h1 v (List.mem_of_getElem? hv')
        · exact b5 v (by simpa using Array.mem_of_getElem? hv')
    · rw [if_neg e] at hB
      exact BxR.evo hev (Nat.le_refl _) h.wf (List.getElem?_eq_some_iff.1 hB).1 (fun _ e'=>by cases e') (fun e'=>e (by injection e' with e';exact e'.symm)) (fun h=>h) (h.bx l' B hB)
  · intro l' hl' hv
    exact h.top l' (by simpa using hl') hv
theorem aap (hT:lX P T) (h:Rel fr g W σ a.tmps) {o:Oper} {t:TypeId} {p x:Operand} (ho:o.op=.store t p x) {σ':St} (hs:pU T σ t p x=some σ') :
    ∃ W' g',(execOp a.eval o).run P W=.ok .skip W'∧Rel fr g' W' σ' a.tmps∧Evo (Loc.below fr) σ.bx.length g W g' W'∧σ'.bx.length=σ.bx.length:=by
  unfold pU at hs;split at hs
  case h_2=>cases hs
  rename_i l off ag n y hp hsh hx
  split at hs
  case h_2=>cases hs
  rename_i t' cs hb
  split at hs
  case isFalse=>cases hs
  rename_i hc
  obtain ⟨hag,hn,hgood,hoff⟩:=hc;cases hs;obtain ⟨⟨hl,hlv⟩,ep⟩:(l<σ.bx.length∧g.lv l)∧a.eval p=.pointer (some ⟨g.bx l,off,none⟩):=fQ h hp 0 0;obtain ⟨_,hi⟩:=hT.sh t _ _ hsh;obtain ⟨g1,ac,aa,ah,hpt,aj,ai⟩:∃ g1 ac,Rel fr g1 W ⟨ac,σ.bx⟩ a.tmps∧Evo (Loc.below fr) σ.bx.length g W g1 W∧PtR σ.bx.length g1 W (fun k=>.bc l (off+k)) y (a.eval x)∧ac=nT σ.tm x y∧g1.bx=g.bx:=by
    cases x with
    | tmp s =>
      have hx:σ.tm[s]? = some (.pt y):=hx;refine ⟨g.ren (fC fr s l off),σ.tm.set s (.pt y.un),⟨h.wf.ren,?_,h.bx.ren (fun _ _=>rfl) (fun _=>rfl),h.top⟩,Evo.ren acg,?_,rfl,rfl⟩
      · refine ⟨by simp only [List.length_set];exact h.fr.1,fun i z u hz hu => ?_⟩
        simp only [List.getElem?_set] at hz;by_cases e2:s=i
        · subst e2
          rw [if_pos rfl] at hz;split at hz
          · cases hz
            exact AVR.ny (x:=.pt y) (h.fr.2 s _ u hx hu)
          · cases hz
        · rw [if_neg e2] at hz
          exact (h.fr.2 i z u hz hu).ren (fun j k=>by
            show (if fr=fr∧i=s∧j=0 then Loc.bc l (off+k) else Loc.tm fr i j k)=_;exact if_neg (fun e=>e2 e.2.1.symm))
      · exact PtR.ren (fun k=>by show (if fr=fr∧s=s∧0=0 then _ else _)=_;rw [if_pos ⟨rfl,rfl,rfl⟩]) (h.tmp hx)
    | const v =>
      have hx:opd T.zc σ.tm t (.const v)=some (.pt y):=hx;refine ⟨g,σ.tm,h,Evo.refl _ _ _ _,?_,rfl,rfl⟩;have hfree:∀ (fr' i':Nat),AVR σ.bx.length g W fr' i' (.pt y) (a.eval (.const v)):=fun fr' i'=>fQ h hx fr' i';have hx:zS T.zc t v=some (.pt y):=hx;have hnil:(y.owned=false)∨∃ e k,y=.one (.ow e k []):=by
        unfold zS at hx;split at hx
        · split at hx
          · cases hx;exact .inr ⟨_,_,rfl⟩
          · cases hx
        · cases hx
        · cases hx
        · cases hx;exact .inl rfl
      rcases hnil with hf | ⟨e,k,rfl⟩
      · have:=PtR.un (loc':=fun k=>Loc.bc l (off+k)) (hfree 0 0)
        have hu:y.un=y:=by
          cases y with
          | one c=>exact congrArg Pt.one (Cell.ae9 hf)
          | agg cs =>
            simp only [Pt.un];congr 1;have hf:cs.any Cell.owned=false:=hf;rw [List.any_eq_false] at hf;conv=>rhs;rw [← List.map_id cs]
            exact List.map_congr_left fun c hc=>Cell.ae9 (by simpa using hf c hc)
        rw [hu] at this;exact this
      · obtain ⟨q1,q2,q3⟩:=hfree 0 0
        exact ⟨q1,q2,fun b hb=>by
          exfalso
          unfold zS at hx;split at hx
          · simp [Act.eval,Value.ownBlock] at hb
          · cases hx
          · cases hx
          · cases hx⟩
    | global q=>cases hx
    | func f =>
      have hx:opd T.zc σ.tm t (.func f)=some (.pt y):=hx;cases hx;exact ⟨g,σ.tm,h,Evo.refl _ _ _ _,⟨fun l hl=>by simp at hl,rfl⟩,rfl,rfl⟩
  have hcs:=hpt.cells hgood;have hone:=hcs.one hgood;obtain ⟨ab,af⟩:=ach aa hb (by rw [hn];exact hoff) hcs hone;obtain ⟨_,_,_,vs,b3,b4,_⟩:=aa.bx l _ hb;rw [ai] at ab af b3;have hsz:(a.eval x).cells.size=n:=by rw [← hn,hcs.1];simp
  refine ⟨_,g1,?_,?_,ah.trans af (Nat.le_refl _),by simp⟩;rotate_left
  · subst aj
    exact ab
  · unfold execOp
    rw [ho];have:=kL (P:=P) (W:=W) (t:=t) (o:=off) (v:=a.eval x) hi hsz b3 (by have:=b4.1;simp at this;omega) hone;simp [Sem.run_bind,ep,this]
end
end
end Go.Proofs.YtcomnjodjijcmaaGreat.M
namespace Go.Proofs.YtcomnjodjijcmaaGreat.M
noncomputable section
set_option linter.unusedVariables false
set_option linter.unusedSimpArgs false
open Go.RowKit Go.Proofs.YtcomnjodjijcmaaGreatW.dz Go.Proofs.YtcomnjodjijcmaaGreatW.dX
section
variable {P:Program} {T:Tb} {nb:Nat} {g:Gh} {W:World} {fr:Nat} {σ:St} {a:Act}
theorem PtR.ren' {f:Loc→Loc} {loc loc':Nat→Loc}:{p:Pt}→{u:Value}→(∀ k,k<p.cells.length→f (loc k)=loc' k)→PtR nb g W loc p u→PtR nb (g.ren f) W loc' p u
  | .one _,_,hf,h=>by have:=CR.ren (f:=f) h;rw [hf 0 (by simp [Pt.cells])] at this;exact this
  | .agg _,_,hf,⟨vs,e,r⟩=>⟨vs,e,r.ren hf⟩
def rZ (cs:List Cell) (off:Nat):Bool × Nat→Option Pt
  | (false,_)=>(cs[off]?).map .one
  | (true,n)=>if off+n≤cs.length then some (.agg ((cs.drop off).take n)) else none
theorem xB {loc:Nat→Loc} {cs:List Cell} {vs:List Value} {off:Nat} {s:Bool × Nat} {p:Pt} (hc:CsR nb g W loc cs vs) (hp:rZ cs off s=some p) :
    ∃ v,(s.1=false→vs[off]? = some v)∧(s.1=true→off+s.2≤vs.length∧v=.agg ((vs.drop off).take s.2).toArray)∧PtR nb g W (fun k=>loc (off+k)) p v∧off+p.cells.length≤cs.length∧∀ k,k<p.cells.length→p.cells[k]? = cs[off+k]? := by
  obtain ⟨ag,n⟩:=s;cases ag
  · simp only [rZ] at hp
    obtain ⟨c,h1,rfl⟩:=Option.map_eq_some_iff.mp hp;have hlt:=(List.getElem?_eq_some_iff.1 h1).1;obtain ⟨v,hv⟩:∃ v,vs[off]? = some v:=⟨vs[off]'(by rw [← hc.1];exact hlt),by simp⟩;refine ⟨v,fun _=>hv,(fun h=>by simp at h),hc.2 off c v h1 hv,by simp [Pt.cells];omega,fun k hk => ?_⟩;have:k=0:=by simp [Pt.cells] at hk;omega
    subst this;simp [Pt.cells,h1]
  · simp only [rZ] at hp
    split at hp
    · rename_i hle
      cases hp
      refine ⟨_,(fun h=>by simp at h),fun _=>⟨by rw [← hc.1];exact hle,rfl⟩,⟨_,rfl,by simp [hc.1],fun k c v h1 h2 => ?_⟩,by simp [Pt.cells];omega,fun k hk => ?_⟩
      · rw [List.getElem?_take] at h1 
        simp only [List.getElem?_take] at h2;split at h1
        · rename_i hk
          rw [if_pos hk,List.getElem?_drop] at h2;rw [List.getElem?_drop] at h1;exact hc.2 _ c v h1 h2
        · cases h1
      · simp only [Pt.cells,List.length_take] at hk ⊢
        rw [List.getElem?_take,if_pos (by omega),List.getElem?_drop]
    · cases hp
def uq (T:Tb) (σ:St) (t:TypeId) (x:Operand) (d:Nat):Option St :=
  match opd T.zc σ.tm 0 x,T.sh t with
  | some (.pt (.one (.bp l off))),some s=>match σ.bx[l]? with
    | some (.box t' cs)=>(rZ cs off s).map fun p=>⟨σ.tm.set d (.pt p),σ.bx.set l (.box t' (splice cs off (p.cells.map Cell.un)))⟩
    | _=>none
  | _,_=>none
def fD (fr l off n d:Nat):Loc→Loc
  | .bc l' k=>if l'=l∧off≤k∧k<off+n then .tm fr d 0 (k - off) else .bc l' k
  | ℓ=>ℓ
theorem aci (hT:lX P T) (h:Rel fr g W σ a.tmps) {o:Oper} {t:TypeId} {x:Operand} {d:Nat} (ho:o.op=.load t x) {σ':St} (hs:uq T σ t x d=some σ') :
    ∃ v g',(execOp a.eval o).run P W=.ok (.value v) W∧Rel fr g' W σ' (a.put (some d) v).tmps∧Evo (Loc.below fr) σ.bx.length g W g' W∧σ'.bx.length=σ.bx.length:=by
  unfold uq at hs;split at hs
  case h_2=>cases hs
  rename_i l off s hx hsh
  split at hs
  case h_2=>cases hs
  rename_i t' cs hb
  obtain ⟨p,hp,rfl⟩:=Option.map_eq_some_iff.mp hs;obtain ⟨⟨hl,hlv⟩,ex⟩:(l<σ.bx.length∧g.lv l)∧a.eval x=.pointer (some ⟨g.bx l,off,none⟩):=fQ h hx 0 0;obtain ⟨b0,b1,b2,vs,b3,b4,b5⟩:=h.bx l _ hb;obtain ⟨v,h1,h2,h3,h4,h5⟩:=xB b4 hp;refine ⟨v,g.ren (fD fr l off p.cells.length d),?_,⟨h.wf.ren,?_,?_,?_⟩,Evo.ren (fun ℓ hb=>by cases ℓ <;> first | rfl | exact hb.elim),by simp⟩
  · unfold execOp
    rw [ho];have:(Instr.loadAt t (a.eval x)).run P W=.ok v W:=by
      rw [ex];obtain ⟨ag,n⟩:=s;cases ag
      · exact jA hT hsh (jO b3 off v (h1 rfl))
      · obtain ⟨hle,rfl⟩:=h2 rfl
        refine jB hT hsh (by rw [List.length_take,List.length_drop];simp only at hle;omega) (fun j v hv => ?_);rw [List.getElem?_take] at hv;split at hv
        · rw [List.getElem?_drop] at hv
          exact jO b3 _ v hv
        · cases hv
    simp [Sem.run_bind,this]
  · show FrR (σ.bx.set l _).length _ _ _ _ _
    rw [List.length_set];have hfr:FrR σ.bx.length (g.ren (fD fr l off p.cells.length d)) W fr σ.tm a.tmps:=⟨h.fr.1,fun i z u hz hu=>(h.fr.2 i z u hz hu).ren (fun _ _=>rfl)⟩;refine FrR.put (d:=some d) hfr (fun d' e => ?_);cases e;refine PtR.ren' (fun k hk => ?_) h3;show (if l=l∧off≤off+k∧off+k<off+p.cells.length then Loc.tm fr d 0 (off+k - off) else .bc l (off+k))=_;rw [if_pos ⟨rfl,by omega,by omega⟩,Nat.add_sub_cancel_left]
  · intro l' B hB
    show BxR (σ.bx.set l _).length _ _ _ _;rw [List.length_set];simp only [List.getElem?_set] at hB;have hlen:(p.cells.map Cell.un).length=p.cells.length:=by simp
    by_cases e:l=l'
    · subst e
      rw [if_pos rfl,if_pos hl] at hB;cases hB;refine ⟨b0,by show (g.ow (g.bx l)).map _=_;rw [b1];rfl,b2,vs,b3,⟨by rw [jG (by rw [hlen];exact h4)];exact b4.1,fun k c u hc hu => ?_⟩,b5⟩;rw [jN (by rw [hlen];exact h4),hlen] at hc;split at hc
      · rename_i hk
        rw [List.getElem?_map] at hc;obtain ⟨c0,hc0,rfl⟩:=Option.map_eq_some_iff.mp hc;rw [h5 (k - off) (by omega),show off+(k - off)=k by omega] at hc0;exact CR.free (Cell.lW c0) (CR.un (ℓ':=.bc l k) (b4.2 k c0 u hc0 hu))
      · rename_i hk
        have:=(b4.2 k c u hc hu).ren (f:=fD fr l off p.cells.length d);have e2:fD fr l off p.cells.length d (.bc l k)=.bc l k:=if_neg (fun e=>hk ⟨e.2.1,e.2.2⟩);rw [e2] at this;exact this
    · rw [if_neg e] at hB
      have hb':=h.bx l' B hB;cases B with
      | box t2 cs2 =>
        obtain ⟨q0,q1,q2,us,q3,q4,q5⟩:=hb';exact ⟨q0,by show (g.ow (g.bx l')).map _=_;rw [q1];rfl,q2,us,q3,q4.ren (loc:=.bc l') (fun k _=>by
          show (if l'=l∧off≤k∧k<off+p.cells.length then _ else _)=_;exact if_neg (fun e'=>e e'.1.symm)),q5⟩
      | lp ex' =>
        obtain ⟨q0,q1,q2,q3⟩:=hb';exact ⟨q0,by show (g.ow (g.bx l')).map _=_;rw [q1];rfl,q2,q3⟩
      | lpb =>
        obtain ⟨q0,q1,q2,q3⟩:=hb';exact ⟨q0,by show (g.ow (g.bx l')).map _=_;rw [q1];rfl,q2,q3⟩
      | arr e t xs =>
        obtain ⟨q0,q1⟩:=hb';exact ⟨q0,CR.ren (f:=fD fr l off p.cells.length d) (show CR σ.bx.length g W (.bx l') (.mu e t xs) (g.av l') from q1)⟩
      | mi xs =>
        obtain ⟨q0,q1,q2⟩:=hb';exact ⟨q0,by show (g.ow (g.bx l')).map _=_;rw [q1];rfl,q2⟩
      | gone=>exact hb'
      | no=>exact hb'
  · intro l' hl' hv
    exact h.top l' (by simpa using hl') hv
end
end
end Go.Proofs.YtcomnjodjijcmaaGreat.M
namespace Go.Proofs.YtcomnjodjijcmaaGreat.M
noncomputable section
set_option linter.unusedVariables false
set_option linter.unusedSimpArgs false
open Go.RowKit Go.Proofs.YtcomnjodjijcmaaGreatW.dz Go.Proofs.YtcomnjodjijcmaaGreatW.dX
section
variable {P:Program} {T:Tb} {nb:Nat} {g:Gh} {W:World} {fr:Nat} {σ:St} {a:Act}
theorem abT.news {α:Type} {R:α→List Value→Prop} {sz:Nat} {ad:Addr} {xs:List α} (hs:0<sz) (h:abT R sz (jW g W) (some ad) xs) :
    ∃ news:List Value,news.length=xs.length*sz∧(∀ j u,news[j]? = some u→W.cell? (ad.add j)=some u)∧∀ i x,xs[i]? = some x→∃ vs,R x vs∧vs.length=sz∧∀ j v,vs[j]? = some v→news[i*sz+j]? = some v:=by
  have key:∀ i x,xs[i]? = some x→∃ vs,R x vs∧vs.length=sz∧∀ j v,vs[j]? = some v→W.cell? (ad.add (i*sz+j))=some v:=fun i x hx=>by
    obtain ⟨b,o,vs,e,hR,hl,hc⟩:=h i x hx;cases e;exact ⟨vs,hR,hl,fun j v hv=>by rw [Addr.add_mid];exact (hc j v hv).1⟩
  refine ⟨(List.range (xs.length*sz)).map fun j=>(W.cell? (ad.add j)).getD undef,by simp,fun j u hu => ?_,fun i x hx => ?_⟩
  · rw [List.getElem?_map] at hu
    obtain ⟨q,hq,rfl⟩:=Option.map_eq_some_iff.mp hu;obtain ⟨hq1,hq2⟩:=List.getElem?_eq_some_iff.1 hq;simp at hq1 hq2;subst hq2;have hi:j / sz<xs.length:=by rw [Nat.div_lt_iff_lt_mul hs];exact hq1
    obtain ⟨vs,_,hl,hc⟩:=key (j / sz) _ (List.getElem?_eq_getElem hi);have hr:j % sz<vs.length:=by rw [hl];exact Nat.mod_lt _ hs
    have:=hc (j % sz) _ (List.getElem?_eq_getElem hr);rw [Nat.mul_comm,Nat.div_add_mod] at this;rw [this];rfl
  · obtain ⟨vs,hR,hl,hc⟩:=key i x hx
    refine ⟨vs,hR,hl,fun j v hv => ?_⟩;have hj:j<sz:=by rw [← hl];exact (List.getElem?_eq_some_iff.1 hv).1
    have hi:i<xs.length:=(List.getElem?_eq_some_iff.1 hx).1;have hlt:i*sz+j<xs.length*sz:=by
      have:(i+1)*sz≤xs.length*sz:=Nat.mul_le_mul_right _ hi;rw [Nat.add_mul] at this;omega
    rw [List.getElem?_map,List.getElem?_range hlt,Option.map_some,hc j v hv];rfl
theorem adY {x:Proofs.YtcomnjodjijcmaaGreat.P.S42} {vs:List Value} (h:spR x vs):∀ v∈vs,v.oneCell'=true:=by
  have h:vs=_:=h;subst h;intro v hv;simp at hv;rcases hv with rfl | rfl <;> rfl
theorem SlR.one {α:Type} {R:α→List Value→Prop} {sz:Nat} {cp:Addr→Value→Prop} {xs:List α} {v:Value} (h:SlR R sz cp xs v):v.oneCell'=true:=by
  obtain ⟨A,c,e,_⟩:=h;rw [e];rfl
theorem Ty.agb {cp:Addr→Value→Prop}:(t:Ty)→{x:t.T}→{vs:List Value}→t.R cp x vs→∀ v∈vs,v.oneCell'=true
  | .int _,_,_,h=>by have h:_=_:=h;subst h;intro v hv;simp at hv;subst hv;rfl
  | .bool,_,_,h=>by have h:_=_:=h;subst h;intro v hv;simp at hv;subst hv;rfl
  | .str,_,_,h=>by have h:_=_:=h;subst h;intro v hv;simp at hv;subst hv;rfl
  | .sp,_,_,h=>adY h
  | .gr,_,_,⟨u,h,s⟩=>by subst h;intro v hv;simp at hv;rcases hv with rfl | rfl;rfl;exact s.one
  | .fm,_,_,⟨u,w,h,s,s'⟩=>by subst h;intro v hv;simp at hv;rcases hv with rfl | rfl | rfl | rfl;rfl;rfl;exact s.one;exact s'.one
  | .ff,_,_,h=>by have h:_=_:=h;subst h;intro v hv;simp at hv;rcases hv with rfl | rfl <;> rfl
  | .pr,_,_,⟨w,u,h,s,s'⟩=>by subst h;intro v hv;simp at hv;rcases hv with rfl | rfl;exact s.one;exact s'.one
  | .sl _ _,_,_,⟨u,h,s⟩=>by subst h;intro v hv;simp at hv;subst hv;exact s.one
theorem xC {k:Ty} {cp:Addr→Value→Prop} {xs:List k.T} {news:List Value} (hl:news.length=xs.length*k.sz) (h:∀ i x,xs[i]? = some x→∃ vs,k.R cp x vs∧vs.length=k.sz∧∀ j v,vs[j]? = some v→news[i*k.sz+j]? = some v):∀ u∈news,u.oneCell'=true:=by
  intro u hu;obtain ⟨j,hj⟩:=List.getElem?_of_mem hu;have hlt:j<xs.length*k.sz:=by rw [← hl];exact (List.getElem?_eq_some_iff.1 hj).1
  have hi:j / k.sz<xs.length:=by rw [Nat.div_lt_iff_lt_mul k.oF];exact hlt
  obtain ⟨vs,hR,hl',hc⟩:=h (j / k.sz) _ (List.getElem?_eq_getElem hi);have hr:j % k.sz<vs.length:=by rw [hl'];exact Nat.mod_lt _ k.oF
  have:=hc (j % k.sz) _ (List.getElem?_eq_getElem hr);rw [Nat.mul_comm,Nat.div_add_mod,hj] at this;cases this;exact k.agb hR _ (List.getElem_mem hr)
theorem run_append_nothing {t ty e:TypeId} {i:TypeInfo} {size c:Nat} (ht:P.underlying t=some (.slice e)) (hi:P.info? e=some i)
    {v:Value} {n:Nat} {xs:List Value} (hown:W.ownsRow 0 e size v n xs) :
    (Builtin.append_ #[t,t] ty #[v,.slice none 0 c]).run P W=.ok v W:=by
  rcases hown.2 with ⟨rfl,rfl⟩ | ⟨g,cap,cur,rfl,_,_,hnc,_⟩
  · simp [Builtin.append_,run_underlying ht,sizeOf,typeInfo,hi,Builtin.lenOf,Builtin.firstCells]
  · simp [Builtin.append_,run_underlying ht,sizeOf,typeInfo,hi,Builtin.lenOf,Builtin.firstCells,hnc,storeCells]
theorem yR {t ty e:TypeId} {i:TypeInfo} {z:Value} {size bytes:Nat} (ht:P.underlying t=some (.slice e)) (hi:P.info? e=some i) (hz:i.zero=some z)
    (hsize:i.size=size) (hby:i.bytes=bytes) (hzs:z.cells.size=size) (hsz:0<size) {v:Value} {n:Nat} {xs:List Value} (hown:W.ownsRow 0 e size v n xs)
    {ad:Addr} {m c:Nat} {news:List Value} (hl:news.length=m*size) (hnews:∀ j u,news[j]? = some u→W.cell? (ad.add j)=some u) (h1:∀ u∈news,u.oneCell'=true)
    (h63:n+m≤maxLen) (hbytes:(n+m)*bytes≤140737488355328) :
    ∃ v' W',(Builtin.append_ #[t,t] ty #[v,.slice (some ad) m c]).run P W=.ok v' W'∧W'.ownsRow 0 e size v' (n+m) (xs++news) ∧
      ((v'.ownBlock=v.ownBlock∧W.grownBy W' v.ownBlock)∨(W.grownBy W' none∧∀ b,v'.ownBlock=some b→W.heap.size≤b)):=by
  obtain ⟨v',W',hrun,h2,h3,_,h5⟩:=run_append_own_at W (P:=P) 0 t ty e i z size bytes ht hi hz hsize hby hzs hsz v n xs hown ad m c news hl hnews h1 h63 hbytes (Nat.zero_le _);rcases hown.2 with ⟨rfl,rfl⟩ | ⟨gb,cap,cur,rfl,hbg,hg,hnc,hcm,hcs,htake⟩
  · refine ⟨v',W',hrun,h2,.inr ⟨h3,fun b hb => ?_⟩⟩
    rcases h5 with h | h
    · rw [h] at hb;simp [Value.ownBlock] at hb
    · rw [h] at hb;cases hb;exact Nat.le_refl _
  · by_cases hroom:n+m≤cap
    · have hfit:n*size+news.length≤cur.size:=by rw [hl,hcs,← Nat.add_mul];exact Nat.mul_le_mul_right _ hroom
      have hr:=run_append_room_cells (P:=P) W t ty e i ht hi gb 0 n cap ad m c news (by rw [hl,hsize]) hnews h1 hroom
        (fun j hj=>by
          have:n*size+j<cur.size:=by omega
          rw [hsize,Nat.zero_add];simp only [World.cell?,hg];simp [this])
        (fun j hj=>by simp [World.frozen?,hg])
      rw [hr] at hrun;injection hrun with e1 e2
      subst e1;subst e2;exact ⟨_,_,hr,h2,.inl ⟨rfl,h3⟩⟩
    · have holds:∀ j u,xs[j]? = some u→W.cell? ((⟨gb,0,none⟩:Addr).add j)=some u:=hown.cells (g:=gb) rfl
      obtain ⟨v2,W2,hr,q1,q2⟩:=run_append_arg_grows (P:=P) W t ty e i z size bytes ht hi hz hsize hby hzs hsz ⟨gb,0,none⟩ n cap xs hown.1 holds ad m c news hl hnews (by omega) h63 hbytes;rw [hr] at hrun;injection hrun with e1 e2
      subst e1;subst e2;exact ⟨_,_,hr,h2,.inr ⟨q2,fun b hb=>(q1.lt b hb).1⟩⟩
def Cell.own (z:Bool) (e:TypeId) (k:Ty) (xs:List k.T):Cell:=match z with
  | true=>.ow e k xs
  | false=>.mu e k xs
theorem CR.zY {z:Bool} {ℓ:Loc} {e:TypeId} {k:Ty}:CR nb g W ℓ (Cell.own z e k []) (.slice none 0 0):=by
  cases z with
  | true=>exact CR.nil
  | false=>exact ⟨⟨none,0,rfl,Nat.le_refl _,fun i x hx=>by simp at hx⟩,⟨[],World.ownsRow_nil _ _ _ _⟩,fun b hb=>by simp [Value.ownBlock] at hb⟩
theorem qV (hT:lX P T) (hw:Wf g W) {t ty e:TypeId} {k:Ty} {by':Nat} (hel:T.el t=some (e,k,by')) {ℓs ℓd:Loc} {z0:Bool} {xs ys:List k.T} {v y:Value} (hx:CR nb g W ℓs (Cell.own z0 e k xs) v) (hy:SlR (k.R (jW g W)) k.sz (jW g W) ys y) (hle:xs.length+ys.length≤140737488355328 / by') :
    ∃ v' W' g',(Builtin.append_ #[t,t] ty #[v,y]).run P W=.ok v' W'∧Wf g' W'∧Evo (fun ℓ=>ℓ≠ℓs) nb g W g' W'∧CR nb g' W' ℓd (Cell.own z0 e k (xs++ys)) v'∧g'.lv=g.lv:=by
  obtain ⟨hu,i,z,hi,hz,hsz,hby,hzs,hb0⟩:=hT.el t e k by' hel
  obtain ⟨A,cA,ev,hcA,hrow,cs,hown,hr,hz0⟩:∃ A c,v=.slice A xs.length c∧xs.length≤c∧(∀ i x,xs[i]? = some x→∃ b o vs,A=some ⟨b,o,none⟩∧k.R (jW g W) x vs∧vs.length=k.sz∧∀ j v,vs[j]? = some v→W.cell? ⟨b,o+(i*k.sz+j),none⟩=some v)∧∃ cs,W.ownsRow 0 e k.sz v xs.length cs∧(∀ b,v.ownBlock=some b→g.ow b=some ℓs∧∀ o,g.pr b o→o<xs.length*k.sz)∧(z0=false→∀ b,v.ownBlock=some b→∀ o,¬ g.pr b o):=by
    cases z0 with
    | true =>
      obtain ⟨⟨A,cA,ev,hcA,hrow⟩,⟨cs,hown⟩,hr⟩:=hx;exact ⟨A,cA,ev,hcA,fun i x hx=>let ⟨b,o,vs,e1,hR,hl,hc⟩:=hrow i x hx;⟨b,o,vs,e1,hR,hl,fun j v hv=>(hc j v hv).1⟩,cs,hown,hr,fun h=>by cases h⟩
    | false =>
      obtain ⟨⟨A,cA,ev,hcA,hrow⟩,⟨cs,hown⟩,hr⟩:=hx;exact ⟨A,cA,ev,hcA,hrow,cs,hown,fun b hb=>⟨(hr b hb).1,fun o ho=>((hr b hb).2 o ho).elim⟩,fun _ b hb=>(hr b hb).2⟩
  obtain ⟨B,cB,rfl,hcB,aa⟩:=hy;have hsmall:(xs.length+ys.length)*by'≤140737488355328:=by
    have:=Nat.mul_le_mul_right by' hle
    exact Nat.le_trans this (Nat.div_mul_le_self _ _)
  have hmax:xs.length+ys.length≤maxLen:=by
    have:xs.length+ys.length≤(xs.length+ys.length)*by':=Nat.le_mul_of_pos_right _ hb0
    simp only [maxLen];omega
  have hcs:∀ i x,xs[i]? = some x→∃ vs,k.R (jW g W) x vs∧vs.length=k.sz∧∀ j v,vs[j]? = some v→cs[i*k.sz+j]? = some v:=by
    intro i x hx;obtain ⟨b,o,vs,e1,hR,hl,hc⟩:=hrow i x hx;refine ⟨vs,hR,hl,fun j u hu => ?_⟩;have hi:i<xs.length:=(List.getElem?_eq_some_iff.1 hx).1;rcases hown.2 with ⟨e2,e3⟩ | ⟨gb,cap,cur,e2,_⟩
    · omega
    · have hj:j<k.sz:=by rw [← hl];exact (List.getElem?_eq_some_iff.1 hu).1
      have hlt:i*k.sz+j<xs.length*k.sz:=by
        have:(i+1)*k.sz≤xs.length*k.sz:=Nat.mul_le_mul_right _ hi;rw [Nat.add_mul] at this;omega
      rw [e2] at hown;have:=hown.cellAt (i*k.sz+j) hlt;rw [ev,e1] at e2;simp only [Value.slice.injEq,Option.some.injEq,Addr.mk.injEq,true_and,and_true] at e2;obtain ⟨⟨rfl,rfl⟩,_⟩:=e2;rw [← this];have:=hc j u hu;rwa [Nat.zero_add] at this
  have main:∃ v' W' news,(Builtin.append_ #[t,t] ty #[v,.slice B ys.length cB]).run P W=.ok v' W'∧W'.ownsRow 0 e k.sz v' (xs.length+ys.length) (cs++news) ∧
      ((v'.ownBlock=v.ownBlock∧W.grownBy W' v.ownBlock)∨(W.grownBy W' none∧∀ b,v'.ownBlock=some b→W.heap.size≤b)) ∧
      ∀ i x,ys[i]? = some x→∃ vs,k.R (jW g W) x vs∧vs.length=k.sz∧∀ j v,vs[j]? = some v→news[i*k.sz+j]? = some v:=by
    cases B with
    | some ad =>
      obtain ⟨news,hnl,hnc,hnr⟩:=aa.news k.oF;obtain ⟨v',W',q1,q2,q3⟩:=yR (ty:=ty) hu hi hz hsz hby hzs k.oF hown hnl hnc (xC hnl hnr) hmax hsmall (c:=cB);exact ⟨v',W',news,q1,q2,q3,hnr⟩
    | none =>
      have hn:ys=[]:=by
        cases ys with
        | nil=>rfl
        | cons y r =>
          obtain ⟨b,o,vs,e1,_⟩:=aa 0 y rfl;cases e1
      subst hn;refine ⟨v,W,[],run_append_nothing hu hi hown,by simpa using hown,.inl ⟨rfl,⟨rfl,rfl,rfl,Nat.le_refl _,fun _ _ _=>rfl⟩⟩,fun i x hx=>by simp at hx⟩
  obtain ⟨v',W',news,hrun,hown',hat,hnr⟩:=main;have hlen:(xs++ys).length=xs.length+ys.length:=List.length_append;obtain ⟨g',hg'⟩:∃ g':Gh,g'={ g with ow:=fun b=>if v'.ownBlock=some b then some ℓd else g.ow b,pr:=fun b o=>g.pr b o∨(z0=true∧v'.ownBlock=some b∧o<(xs++ys).length*k.sz) }:=⟨_,rfl⟩;have hcl:cs.length=xs.length*k.sz:=hown.1;have hcell':∀ b,v'.ownBlock=some b→∀ o,o<(xs++ys).length*k.sz→W'.cell? ⟨b,o,none⟩=(cs++news)[o]? := by
    intro b hb o ho;rcases hown'.2 with ⟨e2,_⟩ | ⟨gb,cap,cur,e2,_⟩
    · rw [e2] at hb;simp [Value.ownBlock] at hb
    · rw [e2] at hb hown'
      have:gb=b:=by simpa [Value.ownBlock] using hb
      subst this;rw [hlen] at ho;exact hown'.cellAt o ho
  have hne:∀ b,b<W.heap.size→(∀ ℓ,g.ow b=some ℓ→ℓ≠ℓs)→v'.ownBlock≠some b∧W'.heap[b]? = W.heap[b]? := by
    intro b hb ho;have h1:some b≠v.ownBlock:=fun e=>ho ℓs (hr b e.symm).1 rfl;rcases hat with ⟨h,hg⟩ | ⟨hg,h⟩
    · exact ⟨fun e=>h1 (by rw [← e,h]),hg.block b hb h1⟩
    · exact ⟨fun e=>by have:=h b e;omega,hg.block b hb (by simp)⟩
  have hsame:W'.os=W.os∧W'.tape=W.tape∧W'.output=W.output∧W.heap.size≤W'.heap.size:=by
    rcases hat with ⟨_,h⟩ | ⟨h,_⟩ <;> exact ⟨h.os,h.tape,h.output,h.size⟩
  have hev:Evo (fun ℓ=>ℓ≠ℓs) nb g W g' W':=by
    subst hg';refine ⟨hsame.1,hsame.2.1,hsame.2.2.1,hsame.2.2.2,fun b o hp=>⟨.inl hp,fun u hu => ?_⟩,fun b hb ho => ?_,fun l _ hv=>⟨hv,rfl,rfl,rfl⟩⟩
    · have hb:=hw.pr b o hp
      rcases hat with ⟨h,hg⟩ | ⟨hg,h⟩
      · by_cases hvb:v.ownBlock=some b
        · have ho:=(hr b hvb).2 o hp
          have h1:cs[o]? = some u:=by
            have:=hown.cells hvb o (cs[o]'(by omega)) (by simp);rw [Addr.add_mid,Nat.zero_add,hu] at this;cases this;simp
          rw [hcell' b (by rw [h];exact hvb) o (by rw [hlen,Nat.add_mul];omega),List.getElem?_append_left (by omega)];exact h1
        · rw [World.cell?_of_block (hg.block b hb (fun e=>hvb e.symm))]
          exact hu
      · rw [World.cell?_of_block (hg.block b hb (by simp))]
        exact hu
    · obtain ⟨h1,h2⟩:=hne b hb ho
      exact ⟨h2,if_neg h1,fun o hp=>hp.resolve_right (fun h=>h1 h.2.1)⟩
  have hpr:∀ b,v'.ownBlock=some b→∀ o,g.pr b o→o<(xs++ys).length*k.sz:=by
    intro b hb o hp;rcases hat with ⟨h,hg⟩ | ⟨hg,h⟩
    · have:=(hr b (by rw [← h];exact hb)).2 o hp
      rw [hlen,Nat.add_mul];omega
    · have:=hw.pr b o hp
      have:=h b hb;omega
  have ab:z0=false→∀ b,v'.ownBlock=some b→∀ o,¬ g.pr b o:=by
    intro hz b hb o hp;rcases hat with ⟨h,hg⟩ | ⟨hg,h⟩
    · exact hz0 hz b (by rw [← h];exact hb) o hp
    · have:=hw.pr b o hp
      have:=h b hb;omega
  have hwf':Wf g' W':=by
    refine ⟨fun b o hp => ?_,fun b ℓ hb => ?_⟩
    · subst hg'
      rcases hp with hp | ⟨_,hp,_⟩
      · exact Nat.lt_of_lt_of_le (hw.pr b o hp) hsame.2.2.2
      · exact (hown'.lt b hp).2
    · subst hg'
      simp only at hb;split at hb
      · rename_i hb'
        exact (hown'.lt b hb').2
      · exact Nat.lt_of_lt_of_le (hw.ow b ℓ hb) hsame.2.2.2
  have hread:∃ A c,v'=.slice A (xs++ys).length c∧(xs++ys).length≤c∧∀ i x,(xs++ys)[i]? = some x→∃ b o vs,A=some ⟨b,o,none⟩∧k.R (jW g' W') x vs∧vs.length=k.sz∧∀ j v,vs[j]? = some v→W'.cell? ⟨b,o+(i*k.sz+j),none⟩=some v∧(z0=true→g'.pr b (o+(i*k.sz+j))):=by
    rcases hown'.2 with ⟨e2,e3⟩ | ⟨gb,cap,cur,e2,_,hh,hnc,_,_,htake⟩
    · have:xs++ys=[]:=List.eq_nil_of_length_eq_zero (by rw [hlen];exact e3)
      rw [this,e2];exact ⟨none,0,rfl,Nat.le_refl _,fun i x hx=>by simp at hx⟩
    · refine ⟨some ⟨gb,0,none⟩,cap,by rw [hlen];exact e2,by rw [hlen];exact hnc,fun i x hx => ?_⟩
      have hvb:v'.ownBlock=some gb:=by rw [e2];rfl
      have hi:i<(xs++ys).length:=(List.getElem?_eq_some_iff.1 hx).1;obtain ⟨vs,hR,hl,hc⟩:∃ vs,k.R (jW g W) x vs∧vs.length=k.sz∧∀ j v,vs[j]? = some v→(cs++news)[i*k.sz+j]? = some v:=by
        rw [List.getElem?_append] at hx;split at hx
        · rename_i hi'
          obtain ⟨vs,hR,hl,hc⟩:=hcs i x hx;refine ⟨vs,hR,hl,fun j u hu => ?_⟩;have:=hc j u hu;rw [List.getElem?_append_left (List.getElem?_eq_some_iff.1 this).1];exact this
        · rename_i hi'
          obtain ⟨vs,hR,hl,hc⟩:=hnr (i - xs.length) x hx;refine ⟨vs,hR,hl,fun j u hu => ?_⟩;have e4:i*k.sz+j=cs.length+((i - xs.length)*k.sz+j):=by
            rw [hcl,← Nat.add_assoc,← Nat.add_mul];congr 2;omega
          rw [e4,List.getElem?_append_right (by omega),Nat.add_sub_cancel_left];exact hc j u hu
      refine ⟨gb,0,vs,rfl,k.jr hev.cp _ _ hR,hl,fun j u hu => ?_⟩;have hj:j<k.sz:=by rw [← hl];exact (List.getElem?_eq_some_iff.1 hu).1
      have hlt:i*k.sz+j<(xs++ys).length*k.sz:=by
        have:(i+1)*k.sz≤(xs++ys).length*k.sz:=Nat.mul_le_mul_right _ hi;rw [Nat.add_mul] at this;omega
      rw [Nat.zero_add];refine ⟨?_,fun hz => ?_⟩
      · rw [hcell' gb hvb _ hlt]
        exact hc j u hu
      · subst hg'
        exact .inr ⟨hz,hvb,hlt⟩
  obtain ⟨A',c',f1,f2,f3⟩:=hread;refine ⟨v',W',g',hrun,hwf',hev,?_,by rw [hg']⟩;cases z0 with
  | true =>
    refine ⟨⟨A',c',f1,f2,fun i x hx=>let ⟨b,o,vs,e1,hR,hl,hc⟩:=f3 i x hx;⟨b,o,vs,e1,hR,hl,fun j v hv=>⟨(hc j v hv).1,(hc j v hv).2 rfl⟩⟩⟩,⟨_,by rw [hlen];exact hown'⟩,fun b hb=>⟨?_,fun o hp => ?_⟩⟩
    · subst hg'
      exact if_pos hb
    · subst hg'
      rcases hp with hp | ⟨_,_,hp⟩
      · exact hpr b hb o hp
      · exact hp
  | false =>
    refine ⟨⟨A',c',f1,f2,fun i x hx=>let ⟨b,o,vs,e1,hR,hl,hc⟩:=f3 i x hx;⟨b,o,vs,e1,hR,hl,fun j v hv=>(hc j v hv).1⟩⟩,⟨_,by rw [hlen];exact hown'⟩,fun b hb=>⟨?_,fun o hp => ?_⟩⟩
    · subst hg'
      exact if_pos hb
    · subst hg'
      rcases hp with hp | ⟨hp,_⟩
      · exact ab rfl b hb o hp
      · cases hp
end
end
end Go.Proofs.YtcomnjodjijcmaaGreat.M
namespace Go.Proofs.YtcomnjodjijcmaaGreat.M
noncomputable section
set_option linter.unusedVariables false
set_option linter.unusedSimpArgs false
open Go.RowKit Go.Proofs.YtcomnjodjijcmaaGreatW.dz Go.Proofs.YtcomnjodjijcmaaGreatW.dX
section
variable {P:Program} {T:Tb} {nb:Nat} {g:Gh} {W:World} {fr:Nat} {σ:St} {a:Act}
theorem CsR.acj {A:Loc→Prop} {nb':Nat} {g':Gh} {W':World} (h:Evo A nb g W g' W') (hn:nb≤nb') {loc loc':Nat→Loc} {cs:List Cell} {vs:List Value} (hc:CsR nb g W loc cs vs):CsR nb' g' W' loc' (cs.map Cell.un) vs :=
  ⟨by rw [List.length_map];exact hc.1,fun k c v hk hv=>by
    rw [List.getElem?_map] at hk;obtain ⟨c0,h0,rfl⟩:=Option.map_eq_some_iff.mp hk;exact CR.evo h hn (CR.un (ℓ':=loc' k) (hc.2 k c0 v h0 hv)) (fun e=>by rw [Cell.lW] at e;cases e)⟩
theorem PtR.acj {A:Loc→Prop} {nb':Nat} {g':Gh} {W':World} (h:Evo A nb g W g' W') (hn:nb≤nb') {loc loc':Nat→Loc}:{p:Pt}→{u:Value}→PtR nb g W loc p u→PtR nb' g' W' loc' p.un u
  | .one c,_,hc=>CR.evo h hn (CR.un (ℓ':=loc' 0) hc) (fun e=>by rw [Cell.lW] at e;cases e)
  | .agg _,_,⟨vs,e,r⟩=>⟨vs,e,r.acj h hn⟩
theorem AVR.acj {A:Loc→Prop} {nb' fr' i i':Nat} {g':Gh} {W':World} (h:Evo A nb g W g' W') (hn:nb≤nb'):{x:AV}→{u:Value}→AVR nb g W fr i x u→AVR nb' g' W' fr' i' x.un u
  | .pt _,_,hp=>PtR.acj h hn hp
  | .tup ps,_,⟨vs,e,l,r⟩=>⟨vs,e,by rw [List.length_map];exact l,fun j p v hp hv=>by
    rw [List.getElem?_map] at hp;obtain ⟨p0,h0,rfl⟩:=Option.map_eq_some_iff.mp hp;exact (r j p0 v h0 hv).acj h hn⟩
theorem Rel.took (h:Rel fr g W σ a.tmps) {s d:Nat} {g':Gh} {W':World} (hev:Evo (fun ℓ=>ℓ≠.tm fr s 0 0) σ.bx.length g W g' W') (hwf:Wf g' W') (hlv:∀ l,g'.lv l→g.lv l) {x:AV} {v:Value} (hx:AVR σ.bx.length g' W' fr d x v) {tm:List AV}
    (aa:∀ i,i≠d→tm[i]? = if i=s then (σ.tm[i]?).map AV.un else σ.tm[i]?) (hlen:tm.length=σ.tm.length) (hd:∀ y,tm[d]? = some y→y=x):Rel fr g' W' ⟨tm,σ.bx⟩ (a.put (some d) v).tmps:=by
  refine ⟨hwf,⟨by simp only [Act.put,Array.size_setIfInBounds];rw [hlen];exact h.fr.1,fun i y u hy hu => ?_⟩,fun l B hB => ?_,fun l hl hv=>h.top l hl (hlv l hv)⟩
  · simp only [Act.put] at hu
    rw [Array.getElem?_setIfInBounds] at hu;by_cases e:d=i
    · subst e
      rw [if_pos rfl] at hu;split at hu
      · cases hu
        rw [hd y hy];exact hx
      · cases hu
    · rw [if_neg e] at hu
      rw [aa i (Ne.symm e)] at hy;split at hy
      · obtain ⟨y0,h0,rfl⟩:=Option.map_eq_some_iff.mp hy
        exact (h.fr.2 i y0 u h0 hu).acj hev (Nat.le_refl _)
      · rename_i hs
        exact (h.fr.2 i y u hy hu).evo hev (Nat.le_refl _) (fun j k e'=>by injection e' with _ e1;exact hs e1)
  · exact BxR.evo hev (Nat.le_refl _) h.wf (List.getElem?_eq_some_iff.1 hB).1 (fun _ e=>by cases e) (fun e=>by cases e) (hlv l) (h.bx l B hB)
def ownOf? : AV→Option (Bool × TypeId × ((k:Ty) × List k.T))
  | .pt (.one (.ow e k xs))=>some (true,e,⟨k,xs⟩)
  | .pt (.one (.mu e k xs))=>some (false,e,⟨k,xs⟩)
  | _=>none
theorem xD {x:AV} {z:Bool} {e:TypeId} {k:Ty} {xs:List k.T} (h:ownOf? x=some (z,e,⟨k,xs⟩)):x=.pt (.one (Cell.own z e k xs)):=by
  unfold ownOf? at h;split at h
  · cases h;rfl
  · cases h;rfl
  · cases h
def af0 (T:Tb) (t:TypeId) (s:Option AV) (y:Option ((k:Ty) × List k.T)):Option (Cell × Cell):=match T.el t,s.bind ownOf?,y with
  | some (e,k,by'),some (z,e',⟨k',xs⟩),some ⟨k2,ys⟩ =>
    if e'=e∧k'=k then (if h:k2=k' then (if xs.length+ys.length≤140737488355328 / by' then some (Cell.own z e' k' xs,Cell.own z e' k' (xs++(h ▸ ys))) else none) else none) else none
  | _,_,_=>none
def ko (T:Tb) (σ:St) (c:Call) (d:Nat):Option St :=
  match c.callee,c.args.toList,c.argTypes.toList with
  | .builtin .append,[s,x],[t,t']=>if t=t' then (af0 T t (pR T σ.tm t s) ((opd T.zc σ.tm t x).bind slOf?)).map fun r=>⟨(nT σ.tm s (.one r.1)).set d (.pt (.one r.2)),σ.bx⟩ else none
  | _,_,_=>none
theorem yS (hT:lX P T) (h:Rel fr g W σ a.tmps) {o:Oper} {c:Call} {d:Nat} (ho:o.op=.call c) {σ':St} (hs:ko T σ c d=some σ') :
    ∃ v W' g',(execOp a.eval o).run P W=.ok (.value v) W'∧Rel fr g' W' σ' (a.put (some d) v).tmps∧Evo (Loc.below fr) σ.bx.length g W g' W'∧σ'.bx.length=σ.bx.length:=by
  unfold ko at hs;split at hs
  case h_2=>cases hs
  rename_i s x t t' hcal hargs hts
  split at hs
  case isFalse=>cases hs
  rename_i htt
  subst htt;obtain ⟨r,hr,rfl⟩:=Option.map_eq_some_iff.mp hs;unfold af0 at hr;split at hr
  case h_2=>cases hr
  rename_i e k by' z e' k' xs k2 ys hel hsrc0 hy
  split at hr
  case isFalse=>cases hr
  rename_i hek
  obtain ⟨rfl,rfl⟩:=hek;split at hr
  case isFalse=>cases hr
  rename_i hk
  subst hk;split at hr
  case isFalse=>cases hr
  rename_i hle
  cases hr
  obtain ⟨x0,hsrc,hx0⟩:=Option.bind_eq_some_iff.mp hsrc0;obtain rfl:=xD hx0;obtain ⟨y',hy1,hy2⟩:=Option.bind_eq_some_iff.mp hy;have hsl:=vT (fQ h hy1 0 0) hy2;obtain ⟨s0,hx,aa,hlen⟩:∃ s0,CR σ.bx.length g W (.tm fr s0 0 0) (Cell.own z e' k2 xs) (a.eval s)∧(∀ i,i≠d→(nT σ.tm s (.one (Cell.own z e' k2 xs)))[i]? = if i=s0 then (σ.tm[i]?).map AV.un else σ.tm[i]?)∧(nT σ.tm s (.one (Cell.own z e' k2 xs))).length=σ.tm.length:=by
    cases s with
    | tmp q =>
      have hq:σ.tm[q]? = some (.pt (.one (Cell.own z e' k2 xs))):=hsrc;refine ⟨q,h.tmp hq,fun i hi => ?_,by simp [nT]⟩;simp only [nT,List.getElem?_set];by_cases e2:q=i
      · subst e2
        rw [if_pos rfl,if_pos rfl,if_pos (List.getElem?_eq_some_iff.1 hq).1,hq];rfl
      · rw [if_neg e2,if_neg (Ne.symm e2)]
    | const v =>
      have hq:zS T.zc t v=some (.pt (.one (Cell.own z e' k2 xs))):=hsrc;have hv:v=.slice none 0 0∧xs=[]:=by
        unfold zS at hq;split at hq
        · split at hq
          · cases z <;> cases hq;exact ⟨rfl,rfl⟩
          · cases hq
        all_goals (cases z <;> cases hq)
      obtain ⟨rfl,rfl⟩:=hv;exact ⟨d,CR.zY,fun i hi=>by rw [if_neg hi];rfl,rfl⟩
    | global q=>cases hsrc
    | func f=>cases z <;> cases hsrc
  obtain ⟨v',W',g',hrun,hwf,hev,hcr,hlv⟩:=qV (ty:=o.type) hT h.wf hel (ℓd:=.tm fr d 0 0) hx hsl hle;refine ⟨v',W',g',?_,?_,hev.weaken (fun ℓ hb e=>by subst e;exact Nat.lt_irrefl _ hb) (Nat.le_refl _),rfl⟩
  · obtain ⟨cal,⟨args⟩,⟨ats⟩⟩:=c
    try simp only at hcal hargs hts
    subst hcal;subst hargs;subst hts;unfold execOp;rw [ho];simp [resolve,invoke,builtin,Sem.run_bind,hrun]
  · refine h.took (s:=s0) hev hwf (fun l hl=>by rw [hlv] at hl;exact hl) (x:=.pt (.one (Cell.own z e' k2 (xs++ys)))) hcr (fun i hi => ?_) (by rw [List.length_set];exact hlen) (fun y hy => ?_)
    · rw [List.getElem?_set,if_neg (Ne.symm hi)]
      exact aa i hi
    · rw [List.getElem?_set,if_pos rfl] at hy
      split at hy
      · cases hy;rfl
      · cases hy
theorem qW {ℓ:Loc} {t:Ty} {c:Cell} {xs:List t.T} {v:Value} (h:c.asL t=some xs) (hc:CR nb g W ℓ c v):SlR (t.R (jW g W)) t.sz (jW g W) xs v:=by
  unfold Cell.asL at h;split at h
  · split at h
    · rename_i e
      subst e;cases h;exact hc
    · cases h
  · split at h
    · rename_i e
      subst e;cases h;exact hc.1
    · cases h
  · cases h
theorem Ty.aaq {loc:Nat→Loc} {t:Ty} {cs:List Cell} {vs:List Value} {x:t.T} (h:t.of cs=some x) (hc:CsR nb g W loc cs vs):t.R (jW g W) x vs:=by
  have one:∀ {c:Cell},cs=[c]→∃ v,vs=[v]∧CR nb g W (loc 0) c v:=fun {c} e=>by
    subst e;obtain ⟨v,rfl⟩:=List.length_eq_one_iff.1 hc.1.symm;exact ⟨v,rfl,hc.2 0 _ _ rfl rfl⟩
  have two:∀ {c d:Cell},cs=[c,d]→∃ v u,vs=[v,u]∧CR nb g W (loc 0) c v∧CR nb g W (loc 1) d u:=fun {c d} e=>by
    subst e;have hl:=hc.1
    match vs,hl,hc with
    | [v,u],_,hc=>exact ⟨v,u,rfl,hc.2 0 _ _ rfl rfl,hc.2 1 _ _ rfl rfl⟩
  unfold Ty.of at h;split at h
  · rename_i k k' n
    split at h
    · rename_i e;subst e
      cases h
      obtain ⟨v,rfl,hv⟩:=one rfl;exact congrArg (fun x=>[x]) hv.1
    · cases h
  · cases h
    obtain ⟨v,rfl,hv⟩:=one rfl;exact congrArg (fun x=>[x]) hv.1
  · cases h
    obtain ⟨v,rfl,hv⟩:=one rfl;exact congrArg (fun x=>[x]) hv.1
  · cases h
    obtain ⟨v,u,rfl,hv,hu⟩:=two rfl;show [v,u]=_;rw [hv.1,hu.1]
  · obtain ⟨xs,h1,h2⟩:=Option.map_eq_some_iff.mp h
    subst h2;obtain ⟨v,u,rfl,hv,hu⟩:=two rfl;exact ⟨u,by rw [hv.1],qW h1 hu⟩
  · obtain ⟨xs,h1,h2⟩:=Option.bind_eq_some_iff.mp h
    obtain ⟨ys,h3,h4⟩:=Option.map_eq_some_iff.mp h2;subst h4;have hl:=hc.1
    match vs,hl,hc with
    | [v,u,w,z],_,hc =>
      have q0:=hc.2 0 _ _ rfl rfl;have q1:=hc.2 1 _ _ rfl rfl;have q2:=hc.2 2 _ _ rfl rfl;have q3:=hc.2 3 _ _ rfl rfl;exact ⟨w,z,by rw [q0.1,q1.1],qW h1 q2,qW h3 q3⟩
  · cases h
    obtain ⟨v,u,rfl,hv,hu⟩:=two rfl;have e1:v=.func (.func _) #[] #[]:=hv.2;have e2:u=.func (.func _) #[] #[]:=hu.2;show [v,u]=_;rw [e1,e2]
  · obtain ⟨xs,h1,h2⟩:=Option.bind_eq_some_iff.mp h
    obtain ⟨ys,h3,h4⟩:=Option.map_eq_some_iff.mp h2;subst h4;obtain ⟨v,u,rfl,hv,hu⟩:=two rfl;exact ⟨v,u,rfl,qW h1 hv,qW h3 hu⟩
  · obtain ⟨v,rfl,hv⟩:=one rfl
    exact ⟨v,rfl,qW h hv⟩
  · cases h
theorem lY {t:Ty} {c:Cell} {xs:List t.T} (h:c.asL t=some xs):c.good=true:=by
  unfold Cell.asL at h;split at h <;> first | rfl | cases h
theorem Ty.adZ {t:Ty} {cs:List Cell} {x:t.T} (h:t.of cs=some x):cs.all Cell.good=true:=by
  unfold Ty.of at h;split at h
  · rfl
  · rfl
  · rfl
  · rfl
  · obtain ⟨xs,h1,h2⟩:=Option.map_eq_some_iff.mp h
    simp only [List.all_cons,List.all_nil,Bool.and_true,lY h1];rfl
  · obtain ⟨xs,h1,h2⟩:=Option.bind_eq_some_iff.mp h
    obtain ⟨ys,h3,h4⟩:=Option.map_eq_some_iff.mp h2;simp only [List.all_cons,List.all_nil,Bool.and_true,lY h1,lY h3];rfl
  · rfl
  · obtain ⟨xs,h1,h2⟩:=Option.bind_eq_some_iff.mp h
    obtain ⟨ys,h3,h4⟩:=Option.map_eq_some_iff.mp h2;simp only [List.all_cons,List.all_nil,Bool.and_true,lY h1,lY h3]
  · simp [lY h]
  · cases h
def lI (T:Tb) (tm:List AV) (e:TypeId) (k:Ty):Nat→List (Nat × Operand)→Option (List k.T)
  | _,[]=>some []
  | i,(j,x) :: r=>if j=i then (match opd T.zc tm e x with
    | some (.pt p)=>match k.of p.cells,lI T tm e k (i+1) r with
      | some y,some ys=>some (y :: ys)
      | _,_=>none
    | _=>none) else none
def qX (T:Tb) (σ:St) (t:TypeId) (n:Nat) (parts:List (Nat × Operand)) (d:Nat):Option St :=
  match T.el t with
  | some (e,k,_)=>if parts.length=n∧n*k.sz≤16777216 then (lI T σ.tm e k 0 parts).map fun xs=>⟨σ.tm.set d (.pt (.one (.ow e k xs))),σ.bx⟩ else none
  | none=>none
theorem xE (h:Rel fr g W σ a.tmps) {e:TypeId} {k:Ty}:∀ (parts:List (Nat × Operand)) (i:Nat) (xs:List k.T),lI T σ.tm e k i parts=some xs →
    xs.length=parts.length∧parts.map (fun p=>(p.1,a.eval p.2))=((parts.map fun p=>a.eval p.2).zipIdx i).map (fun x=>(x.2,x.1))∧∀ (j:Nat) (x:k.T),xs[j]? = some x→∃ u:Value,(parts.map fun p=>a.eval p.2)[j]? = some u∧k.R (jW g W) x u.cells.toList
  | [],i,xs,hx=>by cases hx;exact ⟨rfl,rfl,fun j x hj=>by simp at hj⟩
  | (j,x) :: r,i,xs,hx=>by
    simp only [lI] at hx;split at hx
    case isFalse=>cases hx
    rename_i hj
    subst hj;split at hx
    case h_2=>cases hx
    rename_i p hp
    split at hx
    case h_2=>cases hx
    rename_i y ys hy hys
    cases hx
    obtain ⟨h1,h2,h3⟩:=xE h r (j+1) ys hys;refine ⟨by simp [h1],by simp [h2],fun q z hq => ?_⟩;cases q with
    | zero =>
      simp at hq
      subst hq;exact ⟨_,rfl,Ty.aaq hy (PtR.cells (loc:=.tm 0 0 0) (fQ h hp 0 0) (Ty.adZ hy))⟩
    | succ q=>exact h3 q z (by simpa using hq)
theorem pV {s:Nat}:∀ (vs:List Value),(∀ v∈vs,v.cells.size=s)→(vs.flatMap fun v=>v.cells.toList).length=vs.length*s
  | [],_=>by simp
  | v :: r,h=>by
    simp only [List.flatMap_cons,List.length_append,List.length_cons,pV r (fun v hv=>h v (List.mem_cons_of_mem _ hv)),Array.length_toList,h v List.mem_cons_self,Nat.add_mul];omega
theorem aar {s:Nat}:∀ (vs:List Value) (i j:Nat) (v u:Value),(∀ v∈vs,v.cells.size=s)→vs[i]? = some v→v.cells.toList[j]? = some u→(vs.flatMap fun v=>v.cells.toList)[i*s+j]? = some u
  | [],i,j,v,u,_,h,_=>by simp at h
  | w :: r,i,j,v,u,h,hi,hj=>by
    have hw:=h w List.mem_cons_self;simp only [List.flatMap_cons];cases i with
    | zero =>
      simp at hi
      subst hi;rw [Nat.zero_mul,Nat.zero_add,List.getElem?_append_left (List.getElem?_eq_some_iff.1 hj).1];exact hj
    | succ i =>
      have e:(i+1)*s+j=w.cells.toList.length+(i*s+j):=by simp [hw,Nat.add_mul];omega
      rw [e,List.getElem?_append_right (by omega),Nat.add_sub_cancel_left];exact aar r i j v u (fun v hv=>h v (List.mem_cons_of_mem _ hv)) (by simpa using hi) hj
theorem aas (hw:Wf g W) {e:TypeId} {k:Ty} {xs:List k.T} {news:List Value} (hm:xs.length≤maxLen) (hl:news.length=xs.length*k.sz) (hr:∀ i x,xs[i]? = some x→∃ vs,k.R (jW g W) x vs∧vs.length=k.sz∧∀ j v,vs[j]? = some v→news[i*k.sz+j]? = some v) (ℓ:Loc) :
    ∃ g',Wf g' (W.alloc (.cells news.toArray e))∧Evo (fun _=>True) nb g W g' (W.alloc (.cells news.toArray e))∧CR nb g' (W.alloc (.cells news.toArray e)) ℓ (.ow e k xs) (.slice (some ⟨W.heap.size,0,none⟩) xs.length xs.length)∧g'.lv=g.lv:=by
  obtain ⟨g',hg'⟩:∃ g':Gh,g'={ g with ow:=fun b=>if b=W.heap.size then some ℓ else g.ow b,pr:=fun b o=>g.pr b o∨(b=W.heap.size∧o<xs.length*k.sz) }:=⟨_,rfl⟩;have hev:Evo (fun _=>True) nb g W g' (W.alloc (.cells news.toArray e)):=by
    subst hg';exact ⟨rfl,rfl,rfl,by simp,fun b o hp=>⟨.inl hp,fun v hv=>kK hv⟩,fun b hb _=>⟨Below.heap_alloc _ _ _ hb,if_neg (by omega),fun o ho=>ho.resolve_right (fun h=>by omega)⟩,fun _ _ hv=>⟨hv,rfl,rfl,rfl⟩⟩
  refine ⟨g',?_,hev,⟨⟨some ⟨W.heap.size,0,none⟩,xs.length,rfl,Nat.le_refl _,fun i x hx => ?_⟩,⟨news,hl,.inr ⟨W.heap.size,xs.length,news.toArray,rfl,Nat.zero_le _,heap_alloc_new _ _,Nat.le_refl _,hm,by simpa using hl,by rw [← hl];simp⟩⟩,fun b hb => ?_⟩,by rw [hg']⟩
  · subst hg'
    refine ⟨fun b o hp => ?_,fun b ℓ' hb => ?_⟩
    · rcases hp with hp | ⟨rfl,_⟩
      · have:=hw.pr b o hp;simp;omega
      · simp
    · simp only at hb
      split at hb
      · simp;omega
      · have:=hw.ow b ℓ' hb;simp;omega
  · obtain ⟨vs,hR,hvl,hc⟩:=hr i x hx
    refine ⟨W.heap.size,0,vs,rfl,k.jr hev.cp _ _ hR,hvl,fun j v hv => ?_⟩;have hj:j<k.sz:=by rw [← hvl];exact (List.getElem?_eq_some_iff.1 hv).1
    have hi:i<xs.length:=(List.getElem?_eq_some_iff.1 hx).1;have hlt:i*k.sz+j<xs.length*k.sz:=by
      have:(i+1)*k.sz≤xs.length*k.sz:=Nat.mul_le_mul_right _ hi;rw [Nat.add_mul] at this;omega
    rw [Nat.zero_add];refine ⟨?_,by subst hg';exact .inr ⟨rfl,hlt⟩⟩;have:=hc j v hv;rw [World.cell?_alloc_new];simpa using this
  · have:W.heap.size=b:=by simpa [Value.ownBlock] using hb
    subst this;subst hg';refine ⟨if_pos rfl,fun o ho => ?_⟩;rcases ho with ho | ⟨_,ho⟩
    · have:=hw.pr _ _ ho;omega
    · exact ho
theorem aat (hT:lX P T) (h:Rel fr g W σ a.tmps) {o:Oper} {t:TypeId} {n d:Nat} {parts:Array (Nat × Operand)} (ho:o.op=.buildSlice t n parts) {σ':St} (hs:qX T σ t n parts.toList d=some σ') :
    ∃ v W' g',(execOp a.eval o).run P W=.ok (.value v) W'∧Rel fr g' W' σ' (a.put (some d) v).tmps∧Evo (Loc.below fr) σ.bx.length g W g' W'∧σ'.bx.length=σ.bx.length:=by
  unfold qX at hs;split at hs
  case h_2=>cases hs
  rename_i e k by' hel
  split at hs
  case isFalse=>cases hs
  rename_i hn
  obtain ⟨hn1,ab⟩:=hn;obtain ⟨xs,hxs,rfl⟩:=Option.map_eq_some_iff.mp hs;obtain ⟨hu,i,z,hi,hz,hsz,hby,hzs,hb0⟩:=hT.el t e k by' hel
  obtain ⟨h1,h2,h3⟩:=xE h parts.toList 0 xs hxs;have hsize:∀ v∈(parts.toList.map fun p=>a.eval p.2),v.cells.size=k.sz:=by
    intro v hv;obtain ⟨j,hj⟩:=List.getElem?_of_mem hv;have hlt:j<xs.length:=by rw [h1];simpa using (List.getElem?_eq_some_iff.1 hj).1
    obtain ⟨u,hu',hR⟩:=h3 j _ (List.getElem?_eq_getElem hlt);rw [hj] at hu';cases hu';have:=k.ab7 hR;simpa using this
  have hpos:=k.oF;have aa:=Go.Great.fill_whole hpos (parts.toList.map fun p=>a.eval p.2) ((Array.range (n*i.size)).map (z.cells[· % z.cells.size]!)) hsize (by simp [hn1,hsz]);rw [← h2] at aa;have hlen:xs.length=n:=by rw [h1,hn1]
  obtain ⟨g',hwf,hev,hcr,hlv⟩:=aas (nb:=σ.bx.length) h.wf (e:=e) (k:=k) (xs:=xs) (news:=(parts.toList.map fun p=>a.eval p.2).flatMap fun v=>v.cells.toList) (by
      have:n≤n*k.sz:=Nat.le_mul_of_pos_right _ hpos;simp only [maxLen];omega) (by rw [pV _ hsize,h1];simp) (fun q x hx=>by
      obtain ⟨u,hu',hR⟩:=h3 q x hx;exact ⟨_,hR,k.ab7 hR,fun j v hv=>aar _ q j u v hsize hu' hv⟩) (.tm fr d 0 0)
  refine ⟨.slice (some ⟨W.heap.size,0,none⟩) xs.length xs.length,_,g',?_,⟨hwf,?_,?_,fun l hl hv=>h.top l hl (by rw [← hlv];exact hv)⟩,hev.weaken (fun _ _=>trivial) (Nat.le_refl _),rfl⟩
  · unfold execOp
    rw [ho];by_cases hn2:n=0
    · subst hn2
      have hp0:parts=#[]:=Array.toList_inj.1 (List.length_eq_zero_iff.1 hn1);subst hp0;have hx0:xs=[]:=List.length_eq_zero_iff.1 hlen;subst hx0;simp [Instr.buildSlice,Sem.run_bind,run_underlying hu,sizeOf,typeInfo,zeroValue,hi,hz,Instr.fill,newRow];rw [show (Array.range 0)=#[] from Array.eq_empty_of_size_eq_zero Array.size_range,Array.map_empty]
    replace hn2:0<n:=Nat.pos_of_ne_zero hn2;have hr:=run_buildSlice (P:=P) W t e n (parts.map fun (i,x)=>(i,a.eval x)) _ i z hu hi hz (by rw [hsz];omega) (by rw [hsz];have:0<n*k.sz:=Nat.mul_pos hn2 hpos;omega) (by
      rw [Array.toList_map];rw [hsz] at aa ⊢;exact aa)
    simp only [Sem.run_bind,hr,Result.andThen_ok];rw [hlen];rfl
  · exact FrR.put (d:=some d) (h.fr.evo hev (Nat.le_refl _) (fun _ _ _=>trivial)) (fun d' e'=>by cases e';exact hcr)
  · exact fun l B hB=>BxR.evo hev (Nat.le_refl _) h.wf (List.getElem?_eq_some_iff.1 hB).1 (fun _=>trivial) trivial (fun hv=>by rw [← hlv];exact hv) (h.bx l B hB)
end
end
end Go.Proofs.YtcomnjodjijcmaaGreat.M

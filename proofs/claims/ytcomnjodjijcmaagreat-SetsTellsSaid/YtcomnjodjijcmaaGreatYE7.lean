/- Lemmas for laws of chapter 7: what the functions that they reach compute. No condition of its own. -/
import Derived.Test.YtcomnjodjijcmaaGreatYE6
import Derived.RangeFuncNested
import Derived.LoopNIn
import Derived.Scope
namespace Go.Proofs.YtcomnjodjijcmaaGreat.M
noncomputable section
set_option linter.unusedVariables false
set_option linter.unusedSimpArgs false
open Go.RowKit Go.Proofs.YtcomnjodjijcmaaGreatW.dz Go.Proofs.YtcomnjodjijcmaaGreatW.dX
inductive Plc where
  | tm (i:Nat)
  | bx (t d:Nat)
inductive GOp where
  | mu (p:Plc) | fz (p:Plc) | op (p:Plc) | cl (p:Plc) | un (p:Plc)
def zo (σ:St) (t d:Nat):Option (Nat × Nat × TypeId × List Cell):=match (σ.tm[t]?).map AV.un with
  | some (.pt (.one (.bp l off)))=>match σ.bx[l]? with
    | some (.box ty cs)=>some (l,off+d,ty,cs)
    | _=>none
  | _=>none
def adq (σ:St):Plc→Option Cell
  | .tm i=>match σ.tm[i]? with
    | some (.pt (.one c))=>some c
    | _=>none
  | .bx t d=>(zo σ t d).bind fun q=>q.2.2.2[q.2.1]?
def zW (σ:St) (p:Plc) (c:Cell) (bx:List Bx):St:=match p with
  | .tm i=>⟨σ.tm.set i (.pt (.one c)),bx⟩
  | .bx t d=>match zo σ t d with
    | some (l,k,ty,cs)=>⟨σ.tm,bx.set l (.box ty (cs.set k c))⟩
    | none=>⟨σ.tm,bx⟩
def aea (σ:St):GOp→Option St
  | .mu p=>match adq σ p with
    | some (.ow e t [])=>some (zW σ p (.mu e t []) σ.bx)
    | _=>none
  | .fz p=>match adq σ p with
    | some (.mu e t xs)=>some (zW σ p (.ow e t xs) σ.bx)
    | _=>none
  | .op p=>match adq σ p with
    | some (.mu e t xs)=>some (zW σ p (.ar σ.bx.length t xs.length) (σ.bx++[.arr e t xs]))
    | _=>none
  | .cl p=>match adq σ p with
    | some (.ar l t n)=>match σ.bx[l]? with
      | some (.arr e t' xs)=>if t'=t then some (zW σ p (.mu e t' xs) (σ.bx.set l .gone)) else none
      | _=>none
    | _=>none
  | .un p=>match adq σ p with
    | some (.ow e t xs)=>some (zW σ p (.sl t xs) σ.bx)
    | _=>none
def ghL:List GOp→St→Option St
  | [],σ=>some σ
  | o :: r,σ=>(aea σ o).bind (ghL r)
section
variable {P:Program} {T:Tb} {nb:Nat} {g g':Gh} {W:World} {fr:Nat} {σ:St} {ta:Array Value}
def nH (fr:Nat) (σ:St):Plc→Loc
  | .tm i=>.tm fr i 0 0
  | .bx t d=>match zo σ t d with
    | some (l,k,_,_)=>.bc l k
    | none=>.bc 0 0
def AtP (g:Gh) (W:World) (σ:St) (ta:Array Value) (v:Value):Plc→Prop
  | .tm i=>ta[i]? = some v
  | .bx t d=>∃ l k ty cs,∃ vs:Array Value,zo σ t d=some (l,k,ty,cs)∧W.heap[g.bx l]? = some (.cells vs ty (0,0))∧vs[k]? = some v
theorem xR {t d l k:Nat} {ty:TypeId} {cs:List Cell} (h:zo σ t d=some (l,k,ty,cs)):σ.bx[l]? = some (.box ty cs):=by
  unfold zo at h;split at h
  · split at h
    · rename_i hb
      simp only [Option.some.injEq,Prod.mk.injEq] at h;obtain ⟨rfl,_,rfl,rfl⟩:=h;exact hb
    · cases h
  · cases h
theorem qd (h:Rel fr g W σ ta) {p:Plc} {c:Cell} (hc:adq σ p=some c):∃ v,AtP g W σ ta v p∧CR σ.bx.length g W (nH fr σ p) c v:=by
  cases p with
  | tm i =>
    simp only [adq] at hc;split at hc
    · rename_i c' hx
      cases hc
      have hlt:i<ta.size:=by rw [← h.fr.1];exact (List.getElem?_eq_some_iff.1 hx).1
      exact ⟨ta[i],by simp [AtP,hlt],h.fr.2 i _ ta[i] hx (by simp [hlt])⟩
    · cases hc
  | bx t d =>
    obtain ⟨⟨l,k,ty,cs⟩,h1,h2⟩:=Option.bind_eq_some_iff.mp hc;simp only at h2;obtain ⟨b0,b1,b2,vs,b3,b4,b5⟩:=h.bx l _ (xR h1);have hlt:k<vs.size:=by
      have:=b4.1;have hk:=(List.getElem?_eq_some_iff.1 h2).1;simp at this;omega
    refine ⟨vs[k],⟨l,k,ty,cs,vs,h1,b3,by simp [hlt]⟩,?_⟩;have:=b4.2 k c vs[k] h2 (by simp [hlt]);simp only [nH,h1];exact this
theorem Rel.upd (h:Rel fr g W σ ta) {p:Plc} {c c':Cell} (hc:adq σ p=some c) {v:Value} (hat:AtP g W σ ta v p) {A:Loc→Prop} (hev:Evo A σ.bx.length g W g' W) (hwf:Wf g' W) {bx1:List Bx} (hlen:σ.bx.length≤bx1.length)
    (hA:∀ ℓ,ℓ≠nH fr σ p→(∀ l,ℓ≠.bx l)→A ℓ) (hlv:∀ l,l<σ.bx.length→g'.lv l→g.lv l)
    (hbx:∀ l B,bx1[l]? = some B→(σ.bx[l]? = some B∧A (.bx l))∨((∀ t cs,σ.bx[l]? ≠ some (.box t cs))∧BxR bx1.length g' W l B)) (hB:∀ l t cs,σ.bx[l]? = some (.box t cs)→A (.bx l)∧bx1[l]? = some (.box t cs))
    (hnew:CR bx1.length g' W (nH fr σ p) c' v) (hone:v.oneCell'=true) (htop:∀ l,bx1.length≤l→¬ g'.lv l):Rel fr g' W (zW σ p c' bx1) ta:=by
  have hbase:∀ l B,bx1[l]? = some B→(∀ t cs k,B=.box t cs→Loc.bc l k≠nH fr σ p)→BxR bx1.length g' W l B:=fun l B hB1 hne=>by
    rcases hbx l B hB1 with ⟨h1,h2⟩ | ⟨_,h2⟩
    · have hl:=(List.getElem?_eq_some_iff.1 h1).1
      cases B with
      | box t cs=>exact BxR.evo hev hlen h.wf hl (fun k=>hA _ (hne t cs k rfl) (fun l e=>by cases e)) h2 (hlv l hl) (h.bx l _ h1)
      | lp e =>
        obtain ⟨h0,q1,q2,q3⟩:=h.bx l _ h1;obtain ⟨v1,v2,v3,_⟩:=hev.bx l hl h0;obtain ⟨f1,f2,f3⟩:=hev.far (g.bx l) (h.wf.ow _ _ q1) (fun ℓ e=>by rw [q1] at e;cases e;exact h2);exact ⟨v1,by rw [v2,f2];exact q1,by rw [v2];exact fun o ho=>q2 o (f3 o ho),by rw [v2,v3];exact q3⟩
      | lpb =>
        obtain ⟨h0,q1,q2,q3⟩:=h.bx l _ h1;obtain ⟨v1,v2,v3,_⟩:=hev.bx l hl h0;obtain ⟨f1,f2,f3⟩:=hev.far (g.bx l) (h.wf.ow _ _ q1) (fun ℓ e=>by rw [q1] at e;cases e;exact h2);exact ⟨v1,by rw [v2,f2];exact q1,by rw [v2];exact fun o ho=>q2 o (f3 o ho),by rw [v2,v3];exact q3⟩
      | arr e t xs =>
        obtain ⟨h0,q1⟩:=h.bx l _ h1;obtain ⟨v1,v2,v3,v4⟩:=hev.bx l hl h0;refine ⟨v1,?_⟩;rw [v4];exact CR.evo hev hlen (c:=.mu e t xs) q1 (fun _=>h2)
      | mi xs =>
        obtain ⟨h0,q1,q2,q3⟩:=h.bx l _ h1;obtain ⟨v1,v2,v3,_⟩:=hev.bx l hl h0;obtain ⟨f1,f2,f3⟩:=hev.far (g.bx l) (h.wf.ow _ _ q1) (fun ℓ e=>by rw [q1] at e;cases e;exact h2);exact ⟨v1,by rw [v2,f2];exact q1,by rw [v2];exact fun o ho=>q2 o (f3 o ho),by rw [v2];exact q3⟩
      | gone=>exact (hev.bx l hl (h.bx l _ h1)).1
      | no=>exact fun hv=>h.bx l _ h1 (hlv l hl hv)
    · exact h2
  cases p with
  | tm i =>
    refine ⟨hwf,⟨by simp only [zW,List.length_set];exact h.fr.1,fun j y u hy hu => ?_⟩,fun l B hB1=>hbase l B hB1 (fun t cs k _ e=>by cases e),htop⟩;simp only [zW,List.getElem?_set] at hy;by_cases e:i=j
    · subst e
      rw [if_pos rfl] at hy;split at hy
      · cases hy
        have:u=v:=by
          have hat:ta[i]? = some v:=hat;rw [hu] at hat;exact Option.some.inj hat
        rw [this];exact hnew
      · cases hy
    · rw [if_neg e] at hy
      exact (h.fr.2 j y u hy hu).evo hev hlen (fun j' k'=>hA _ (fun e'=>by injection e' with _ e1;exact e e1.symm) (fun l e'=>by cases e'))
  | bx t d =>
    obtain ⟨l,k,ty,cs,vs,hp,b3,hv⟩:=hat;have hb:=xR hp;have hl:=(List.getElem?_eq_some_iff.1 hb).1;obtain ⟨ab,hb1⟩:=hB l ty cs hb;have hloc:nH fr σ (.bx t d)=.bc l k:=by simp only [nH,hp]
    rw [hloc] at hA hnew hbase;have hset:zW σ (.bx t d) c' bx1=⟨σ.tm,bx1.set l (.box ty (cs.set k c'))⟩:=by simp only [zW,hp]
    rw [hset];have aa:(bx1.set l (Bx.box ty (cs.set k c'))).length=bx1.length:=List.length_set;refine ⟨hwf,?_,fun l' B hB1 => ?_,fun l' hl'=>htop l' (by simpa using hl')⟩
    · show FrR (bx1.set l _).length _ _ _ _ _
      rw [aa];exact h.fr.evo hev hlen (fun i j k'=>hA _ (fun e=>by cases e) (fun l e=>by cases e))
    · show BxR (bx1.set l _).length _ _ _ _
      rw [aa];simp only [List.getElem?_set] at hB1;by_cases e:l=l'
      · subst e
        rw [if_pos rfl] at hB1;split at hB1
        case isFalse=>cases hB1
        cases hB1
        obtain ⟨b0,b1,b2,vs',b3',b4,b5⟩:=h.bx l _ hb;rw [b3] at b3';cases b3';obtain ⟨v1,v2,v3,_⟩:=hev.bx l hl b0;obtain ⟨f1,f2,f3⟩:=hev.far (g.bx l) (h.wf.ow _ _ b1) (fun ℓ e=>by rw [b1] at e;cases e;exact ab);refine ⟨v1,by rw [v2,f2];exact b1,by rw [v2];exact fun o ho=>b2 o (f3 o ho),vs,by rw [v2];exact b3,⟨by rw [List.length_set];exact b4.1,fun q c0 u hq hu => ?_⟩,b5⟩;rw [List.getElem?_set] at hq;by_cases e2:k=q
        · subst e2
          rw [if_pos rfl] at hq;split at hq
          · cases hq
            have:u=v:=by
              have hu':vs[k]? = some u:=by simpa using hu
              rw [hv] at hu';exact (Option.some.inj hu').symm
            rw [this];exact hnew
          · cases hq
        · rw [if_neg e2] at hq
          exact CR.evo hev hlen (b4.2 q c0 u hq hu) (fun _=>hA _ (fun e'=>by injection e' with _ e1;exact e2 e1.symm) (fun l e'=>by cases e'))
      · rw [if_neg e] at hB1
        exact hbase l' B hB1 (fun t cs q _ e'=>by injection e' with e1;exact e e1.symm)
theorem oU {p:Plc} (l:Nat):nH fr σ p≠.bx l:=by
  cases p with
  | tm i=>intro e;cases e
  | bx t d=>simp only [nH];split <;> (intro e;cases e)
theorem qg {p:Plc}:¬ (nH fr σ p).below fr:=by
  cases p with
  | tm i=>exact Nat.lt_irrefl fr
  | bx t d=>simp only [nH];split <;> exact fun h=>h
theorem nI {p:Plc} {c:Cell} {bx:List Bx}:(zW σ p c bx).bx.length=bx.length:=by
  cases p with
  | tm i=>rfl
  | bx t d=>simp only [zW];split <;> simp
theorem aeb (h:Rel fr g W σ ta) {o:GOp} {σ':St} (hs:aea σ o=some σ'):∃ g',Rel fr g' W σ' ta∧Evo (Loc.below fr) σ.bx.length g W g' W∧σ.bx.length≤σ'.bx.length:=by
  have hsame:∀ {A:Loc→Prop},(∀ l,A (.bx l))→∀ {nb'} {g':Gh},nb'=σ.bx.length→(∀ l B,σ.bx[l]? = some B→(σ.bx[l]? = some B∧A (.bx l))∨((∀ t cs,σ.bx[l]? ≠ some (.box t cs))∧BxR nb' g' W l B)):=fun hA nb' g' e l B hB=>.inl ⟨hB,hA l⟩;cases o with
  | mu p =>
    simp only [aea] at hs;split at hs
    case h_2=>cases hs
    rename_i e t hc
    cases hs
    obtain ⟨v,hat,hcr⟩:=qd h hc;obtain ⟨q1,q2,q3⟩:=hcr;obtain ⟨A,c,ev,_⟩:=q1;refine ⟨g,h.upd hc hat (A:=fun _=>True) (Evo.refl _ _ _ _) h.wf (Nat.le_refl _) (fun _ _ _=>trivial) (fun _ _ h=>h) (fun l B hB=>.inl ⟨hB,trivial⟩) (fun l t cs h=>⟨trivial,h⟩) ⟨⟨A,c,ev,Nat.zero_le _,fun i x hx=>by simp at hx⟩,q2,fun b hb=>⟨(q3 b hb).1,fun o ho=>by have:=(q3 b hb).2 o ho;simp at this⟩⟩ (by rw [ev];rfl) h.top,Evo.refl _ _ _ _,Nat.le_of_eq nI.symm⟩
  | fz p =>
    simp only [aea] at hs;split at hs
    case h_2=>cases hs
    rename_i e t xs hc
    cases hs
    obtain ⟨v,hat,hcr⟩:=qd h hc;obtain ⟨⟨A,c,ev,hle,hrow⟩,⟨cs,hown⟩,hb3⟩:=hcr;obtain ⟨g',hg'⟩:∃ g':Gh,g'={ g with pr:=fun b o=>g.pr b o∨(v.ownBlock=some b∧o<xs.length*t.sz) }:=⟨_,rfl⟩;have hev:Evo (fun ℓ=>ℓ≠nH fr σ p) σ.bx.length g W g' W:=by
      subst hg';exact ⟨rfl,rfl,rfl,Nat.le_refl _,fun b o hp=>⟨.inl hp,fun v hv=>hv⟩,fun b hb ho=>⟨rfl,rfl,fun o hp=>hp.resolve_right (fun hh=>ho _ (hb3 b hh.1).1 rfl)⟩,fun _ _ hv=>⟨hv,rfl,rfl,rfl⟩⟩
    have hwf:Wf g' W:=by
      subst hg';refine ⟨fun b o hp => ?_,h.wf.ow⟩;rcases hp with hp | ⟨hp,_⟩
      · exact h.wf.pr b o hp
      · exact (hown.lt b hp).2
    refine ⟨g',h.upd hc hat hev hwf (Nat.le_refl _) (fun ℓ hne _=>hne) (fun l _ hv=>by subst hg';exact hv) (fun l B hB=>.inl ⟨hB,fun e=>oU l e.symm⟩) (fun l t cs h=>⟨fun e=>oU l e.symm,h⟩) ⟨⟨A,c,ev,hle,fun i x hx => ?_⟩,⟨cs,hown⟩,fun b hb=>⟨by subst hg';exact (hb3 b hb).1,fun o ho => ?_⟩⟩ (by rw [ev];rfl) (fun l hl hv=>h.top l hl (by subst hg';exact hv)),hev.weaken (fun ℓ hb e=>by subst e;exact qg hb) (Nat.le_refl _),Nat.le_of_eq nI.symm⟩
    · obtain ⟨b,o,vs,e1,hR,hL,hC⟩:=hrow i x hx
      refine ⟨b,o,vs,e1,t.jr hev.cp _ _ hR,hL,fun j u hu=>⟨hC j u hu,?_⟩⟩;subst hg';right;have hvb:v.ownBlock=some b:=by rw [ev,e1];rfl
      refine ⟨hvb,?_⟩;have hi:i<xs.length:=(List.getElem?_eq_some_iff.1 hx).1;have hj:j<t.sz:=by rw [← hL];exact (List.getElem?_eq_some_iff.1 hu).1
      rcases hown.2 with ⟨e2,e3⟩ | ⟨gb,cap,cur,e2,_⟩
      · omega
      · rw [ev,e1] at e2
        simp only [Value.slice.injEq,Option.some.injEq,Addr.mk.injEq,true_and,and_true] at e2;obtain ⟨⟨_,rfl⟩,_⟩:=e2;have:(i+1)*t.sz≤xs.length*t.sz:=Nat.mul_le_mul_right _ hi;rw [Nat.add_mul] at this;show 0+(i*t.sz+j)<_;omega
    · subst hg'
      rcases ho with ho | ⟨_,ho⟩
      · exact ((hb3 b hb).2 o ho).elim
      · exact ho
  | op p =>
    simp only [aea] at hs;split at hs
    case h_2=>cases hs
    rename_i e t xs hc
    cases hs
    obtain ⟨v,hat,hcr⟩:=qd h hc;obtain ⟨⟨A,c,ev,hle,hrow⟩,⟨cs,hown⟩,hb3⟩:=hcr;obtain ⟨g',hg'⟩:∃ g':Gh,g'={ g with ow:=fun b=>if v.ownBlock=some b then some (.bx σ.bx.length) else g.ow b,lv:=fun l=>l=σ.bx.length∨g.lv l,av:=fun l=>if l=σ.bx.length then v else g.av l }:=⟨_,rfl⟩;have hev:Evo (fun ℓ=>ℓ≠nH fr σ p) σ.bx.length g W g' W:=by
      subst hg';refine ⟨rfl,rfl,rfl,Nat.le_refl _,fun b o hp=>⟨hp,fun v hv=>hv⟩,fun b hb ho=>⟨rfl,if_neg (fun hh=>ho _ (hb3 b hh).1 rfl),fun o hp=>hp⟩,fun l hl hv=>⟨.inr hv,rfl,rfl,if_neg (by omega)⟩⟩
    have hwf:Wf g' W:=by
      subst hg';refine ⟨h.wf.pr,fun b ℓ hb => ?_⟩;simp only at hb;split at hb
      · rename_i hh;exact (hown.lt b hh).2
      · exact h.wf.ow b ℓ hb
    have aa:g'.av σ.bx.length=v:=by subst hg';exact if_pos rfl
    have ab:g'.lv σ.bx.length:=by subst hg';exact .inl rfl
    refine ⟨g',h.upd hc hat hev hwf (by simp) (fun ℓ hne _=>hne) (fun l hl hv => ?_) (fun l B hB => ?_) (fun l t cs hl=>⟨fun e=>oU l e.symm,by rw [List.getElem?_append_left (List.getElem?_eq_some_iff.1 hl).1];exact hl⟩) ⟨⟨by simp,ab⟩,aa.symm,?_⟩ (by rw [ev];rfl) (fun l hl hv => ?_),hev.weaken (fun ℓ hb e=>by subst e;exact qg hb) (Nat.le_refl _),by rw [nI];simp⟩
    · subst hg'
      exact hv.resolve_left (by omega)
    · rw [List.getElem?_append] at hB
      split at hB
      · exact .inl ⟨hB,fun e=>oU l e.symm⟩
      · rename_i hl
        right
        have hl2:=(List.getElem?_eq_some_iff.1 hB).1;simp only [List.length_singleton] at hl2;obtain rfl:l=σ.bx.length:=by omega
        simp at hB
        subst hB;refine ⟨fun t cs e=>by simp at e,ab,?_⟩;rw [aa];refine ⟨⟨A,c,ev,hle,fun i x hx => ?_⟩,⟨cs,hown⟩,fun b hb=>⟨?_,fun o ho => ?_⟩⟩
        · obtain ⟨b,o,vs,e1,hR,hL,hC⟩:=hrow i x hx
          exact ⟨b,o,vs,e1,t.jr hev.cp _ _ hR,hL,hC⟩
        · subst hg';exact if_pos hb
        · subst hg';exact (hb3 b hb).2 o ho
    · rw [aa]
      refine ⟨A,c,ev,hle,fun hn => ?_⟩;rcases hown.2 with ⟨e2,e3⟩ | ⟨gb,cap,cur,e2,_⟩
      · omega
      · rw [ev] at e2
        simp only [Value.slice.injEq] at e2;exact ⟨gb,e2.1⟩
    · simp only [List.length_append,List.length_singleton] at hl
      subst hg';rcases hv with rfl | hv
      · omega
      · exact h.top l (by omega) hv
  | un p =>
    simp only [aea] at hs;split at hs
    case h_2=>cases hs
    rename_i e t xs hc
    cases hs
    obtain ⟨v,hat,hcr⟩:=qd h hc;have hone:v.oneCell'=true:=CR.one hcr (fun e=>by cases e) (fun e=>by cases e);exact ⟨g,h.upd hc hat (A:=fun _=>True) (Evo.refl _ _ _ _) h.wf (Nat.le_refl _) (fun _ _ _=>trivial) (fun _ _ h=>h) (fun l B hB=>.inl ⟨hB,trivial⟩) (fun l t cs h=>⟨trivial,h⟩) (CR.un hcr) hone h.top,Evo.refl _ _ _ _,by rw [nI];exact Nat.le_refl _⟩
  | cl p =>
    simp only [aea] at hs;split at hs
    case h_2=>cases hs
    rename_i l t n hc
    split at hs
    case h_2=>cases hs
    rename_i e t' xs hb
    split at hs
    case isFalse=>cases hs
    rename_i ht
    subst ht;cases hs;obtain ⟨v,hat,⟨hl,hlv⟩,hv,hshape⟩:=qd h hc;obtain ⟨b0,⟨A,c,ev,hle,hrow⟩,⟨cs,hown⟩,hb3⟩:=h.bx l _ hb;rw [← hv] at ev hown hb3;obtain ⟨g',hg'⟩:∃ g':Gh,g'={ g with ow:=fun b=>if v.ownBlock=some b then some (nH fr σ p) else g.ow b }:=⟨_,rfl⟩;have hev:Evo (fun ℓ=>ℓ≠.bx l) σ.bx.length g W g' W:=by
      subst hg';refine ⟨rfl,rfl,rfl,Nat.le_refl _,fun b o hp=>⟨hp,fun v hv=>hv⟩,fun b hb ho=>⟨rfl,if_neg (fun hh=>ho _ (hb3 b hh).1 rfl),fun o hp=>hp⟩,fun l hl hv=>⟨hv,rfl,rfl,rfl⟩⟩
    have hwf:Wf g' W:=by
      subst hg';refine ⟨h.wf.pr,fun b ℓ hb => ?_⟩;simp only at hb;split at hb
      · rename_i hh;exact (hown.lt b hh).2
      · exact h.wf.ow b ℓ hb
    refine ⟨g',h.upd hc hat hev hwf (by simp) (fun ℓ hne hnb=>hnb l) (fun l _ hv=>by subst hg';exact hv) (fun l' B hB => ?_) (fun l' t cs hl' => ?_) ⟨⟨A,c,ev,hle,fun i x hx => ?_⟩,⟨cs,hown⟩,fun b hb=>⟨by subst hg';exact if_pos hb,fun o ho=>by subst hg';exact (hb3 b hb).2 o ho⟩⟩ (by rw [ev];rfl) (fun l' hl' hv=>h.top l' (by simpa using hl') (by subst hg';exact hv)),hev.weaken (fun ℓ hb e=>by subst e;exact hb) (Nat.le_refl _),by rw [nI];simp⟩
    · rw [List.getElem?_set] at hB
      by_cases e2:l=l'
      · subst e2
        rw [if_pos rfl,if_pos hl] at hB;cases hB;exact .inr ⟨(fun t cs e=>by rw [hb] at e;cases e),(by subst hg';exact hlv)⟩
      · rw [if_neg e2] at hB
        exact .inl ⟨hB,fun e'=>e2 (by injection e' with e';exact e'.symm)⟩
    · have hne:l≠l':=fun e2=>by subst e2;rw [hb] at hl';cases hl'
      exact ⟨fun e'=>hne (by injection e' with e';exact e'.symm),by rw [List.getElem?_set,if_neg hne];exact hl'⟩
    · obtain ⟨b,o,vs,e1,hR,hL,hC⟩:=hrow i x hx
      exact ⟨b,o,vs,e1,t'.jr hev.cp _ _ hR,hL,hC⟩
theorem aaL:∀ {os:List GOp} {g:Gh} {σ σ':St},Rel fr g W σ ta→ghL os σ=some σ'→∃ g',Rel fr g' W σ' ta∧Evo (Loc.below fr) σ.bx.length g W g' W∧σ.bx.length≤σ'.bx.length
  | [],g,σ,σ',h,hs=>by
    cases hs
    exact ⟨g,h,Evo.refl _ _ _ _,Nat.le_refl _⟩
  | o :: r,g,σ,σ',h,hs=>by
    obtain ⟨σ1,h1,h2⟩:=Option.bind_eq_some_iff.mp hs;obtain ⟨g1,k1,k2,k3⟩:=aeb h h1;obtain ⟨g2,q1,q2,q3⟩:=aaL k1 h2;exact ⟨g2,q1,k2.trans q2 k3,Nat.le_trans k3 q3⟩
end
end
end Go.Proofs.YtcomnjodjijcmaaGreat.M
namespace Go.Proofs.YtcomnjodjijcmaaGreat.M
noncomputable section
set_option linter.unusedVariables false
set_option linter.unusedSimpArgs false
open Go.RowKit Go.Proofs.YtcomnjodjijcmaaGreatW.dz Go.Proofs.YtcomnjodjijcmaaGreatW.dX
structure Ann where
  mv:Nat→Bool
  lk:Nat→Option (List Nat)
  xk:Nat→Option (List Nat)
  rk:Nat→Option (List Nat)
  gh:Nat→List GOp × List GOp
abbrev Hd:=Nat→Option (List AV→List Bx→Option (AV × List Bx))
def zq (Y:Hd) (L:Nat) (h:List AV→List Bx→Option (AV × List Bx)):Hd:=fun q=>if q=L then some h else Y q
def xS (i:Nat):List Nat→Bool
  | []=>false
  | j :: r=>match Nat.beq i j with
    | true=>true
    | false=>xS i r
def su (ks:List Nat):Nat→List AV→List AV
  | _,[]=>[]
  | i,x :: r=>(match xS i ks with
    | true=>x
    | false=>.pt (.one .no)) :: su ks (i+1) r
def kill:Option (List Nat)→List AV→List AV
  | none,tm=>tm
  | some ks,tm=>su ks 0 tm
def Cell.cut (n:Nat):Cell→Cell
  | .bp l off=>if l<n then .bp l off else .no
  | .fn f bs=>if bs.all (fun l=>decide (l<n))=true then .fn f bs else .no
  | .yl l=>if l<n then .yl l else .no
  | .ar l t m=>if l<n then .ar l t m else .no
  | .ae l t i off=>if l<n then .ae l t i off else .no
  | .mh l=>if l<n then .mh l else .no
  | c=>c
def Pt.cut (n:Nat):Pt→Pt
  | .one c=>.one (c.cut n)
  | .agg cs=>.agg (cs.map (Cell.cut n))
def AV.cut (n:Nat):AV→AV
  | .pt p=>.pt (p.cut n)
  | .tup ps=>.tup (ps.map (Pt.cut n))
def Bx.cut (n:Nat):Bx→Bx
  | .box t cs=>.box t (cs.map (Cell.cut n))
  | b=>b
def sw (n:Nat) (bx:List Bx):List Bx:=(bx.take n).map (Bx.cut n)
def aeV (ks:Option (List Nat)) (n:Nat) (σ:St):St:=⟨kill ks (σ.tm.map (AV.cut n)),sw n σ.bx⟩
def zu (F:Nat→St→Option (dQ × St)) (ds xs:Option (List Nat)) (n:Nat):Nat→St→Option (dQ × St)
  | 0,_=>none
  | k+1,σ=>(F k σ).bind fun r=>match r.1 with
    | .normal=>zu F ds xs n k (aeV ds n r.2)
    | e=>some (e,aeV xs n r.2)
def lN (tm:List AV) (ps:List Nat) (ys:List AV):List AV:=(ps.zip ys).foldl (fun tm p=>tm.set p.1 p.2) tm
def mq (b:Bool):AV:=.pt (.one (.v (.bool b)))
def qj (l:Nat) (ps:List Nat) (tm:List AV) (aa ab:St→Option (dQ × St)) (ys:List AV) (bx:List Bx):Option (AV × List Bx) :=
  match bx[l]? with
  | some (.lp .normal)=>if ys.length=ps.length then (match aa ⟨lN (tm.map AV.un) ps ys,bx⟩ with
    | some (.normal,σ1)=>(match σ1.bx[l]? with
      | some (.lp .normal)=>(match ab ⟨σ1.tm,σ1.bx.set l .lpb⟩ with
        | some (e,σ2)=>(match σ2.bx[l]? with
          | some .lpb=>some (mq (decide (e=.normal)),(sw bx.length σ2.bx).set l (.lp e))
          | _=>none)
        | none=>none)
      | _=>none)
    | _=>none) else none
  | _=>none
def inB (rl:Option Nat) (bx:List Bx):Bool:=match rl with
  | none=>true
  | some l0=>match bx[l0]? with
    | some .lpb=>true
    | _=>false
def ghO (A:Ann) (id:Nat) (ops:Array Oper):List GOp × List GOp:=match aco ops with
  | true=>([],[])
  | false=>A.gh id
def ahd:Code→Nat
  | .region id _ _=>3*id+1
  | .block id _=>3*id+2
  | .cond (.tmp t) _ _=>3*t+3
  | .seq x _=>ahd x
  | _=>0
def jn (y:Code):Nat:=1000000+ahd y
def zw (ks:Option (List Nat)) (σ:St):St:=⟨kill ks σ.tm,σ.bx⟩
def iY (Ek:Nat→Env) (A:Ann) (fF:Hd→Nat→ji) (Y:Hd) (rl:Option Nat):Code→Nat→Nat→St→Option (dQ × St)
  | .skip,_,_,σ=>some (.normal,σ)
  | .label _,_,_,σ=>some (.normal,σ)
  | .region id ops draw,k,_,σ=>(ghL (ghO A id ops).1 ⟨kill (A.rk id) σ.tm,σ.bx⟩).bind fun σ1=>(adp (Ek k) A.mv (fF Y k) ops draw σ1).bind fun σ2=>(ghL (ghO A id ops).2 σ2).map fun σ'=>(.normal,σ')
  | .seq x y,k,cur,σ=>(iY Ek A fF Y rl x k cur σ).bind fun r=>match r.1 with
    | .normal=>(iY Ek A fF Y rl y k cur ⟨kill (A.lk (jn y)) r.2.tm,r.2.bx⟩).map fun q=>(q.1,zw (A.xk (jn y)) q.2)
    | e=>some (e,r.2)
  | .cond c x y,k,cur,σ=>match opd (Ek k).T.zc σ.tm 0 c with
    | some (.pt (.one (.v (.bool b))))=>if b=true then iY Ek A fF Y rl x k cur σ else iY Ek A fF Y rl y k cur σ
    | _=>none
  | .block id x,k,_,σ=>(iY Ek A fF Y rl x k id σ).map fun r=>(if r.1=.exit id then .normal else r.1,r.2)
  | .loop x,k,cur,σ=>zu (fun k σ=>iY Ek A fF Y rl x k cur σ) (A.lk cur) (A.xk cur) σ.bx.length k ⟨kill (A.lk cur) σ.tm,σ.bx⟩
  | .rangeFunc f ps x y,k,cur,σ=>match opd (Ek k).T.zc σ.tm 0 f with
    | some (.pt (.one (.fn fid bs)))=>if inB rl σ.bx=true then
      (match fF (zq Y σ.bx.length (qj σ.bx.length ps.toList σ.tm (iY Ek A fF Y (some σ.bx.length) x k cur) (iY Ek A fF Y (some σ.bx.length) y k cur))) k (.fn fid bs) [.pt (.one (.yl σ.bx.length))] (σ.bx++[.lp .normal]) with
        | some (_,aa)=>(match aa[σ.bx.length]? with
          | some (.lp e)=>some (e,⟨σ.tm,sw σ.bx.length aa⟩)
          | _=>none)
        | none=>none) else none
    | _=>none
  | .exit id,_,_,σ=>some (.exit id,σ)
  | .ret,_,_,σ=>some (.ret,σ)
  | .goto l,_,_,σ=>some (.goto l,σ)
  | .scope x,k,cur,σ=>(iY Ek A fF Y rl x k cur σ).bind fun r=>match r.1 with
    | .goto _=>none
    | e=>some (e,r.2)
  | .refuse _,_,_,_=>none
end
end Go.Proofs.YtcomnjodjijcmaaGreat.M
namespace Go.Proofs.YtcomnjodjijcmaaGreat.M
noncomputable section
set_option linter.unusedVariables false
set_option linter.unusedSimpArgs false
open Go.RowKit Go.Proofs.YtcomnjodjijcmaaGreatW.dz Go.Proofs.YtcomnjodjijcmaaGreatW.dX
section
variable {P:Program} {nb nb' n:Nat} {g g':Gh} {W W':World} {fr fr' i i':Nat} {σ:St} {A:Loc→Prop}
theorem FrR.acj (h:Evo A nb g W g' W') (hn:nb≤nb') {tm:List AV} {a:Array Value} (hr:FrR nb g W fr tm a):FrR nb' g' W' fr' (tm.map AV.un) a :=
  ⟨by rw [List.length_map];exact hr.1,fun i x v hx hv=>by
    rw [List.getElem?_map] at hx;obtain ⟨x0,h0,rfl⟩:=Option.map_eq_some_iff.mp hx;exact AVR.acj h hn (hr.2 i x0 v h0 hv)⟩
def Gh.cut (g:Gh) (n:Nat):Gh:={ g with lv:=fun l=>l<n∧g.lv l }
theorem Evo.cut:Evo A n g W (g.cut n) W:=⟨rfl,rfl,rfl,Nat.le_refl _,fun _ _ h=>⟨h,fun _ h=>h⟩,fun _ _ _=>⟨rfl,rfl,fun _ h=>h⟩,fun l hl hv=>⟨⟨hl,hv⟩,rfl,rfl,rfl⟩⟩
theorem CR.cut {ℓ:Loc}:{c:Cell}→{u:Value}→CR nb g W ℓ c u→CR n (g.cut n) W ℓ (c.cut n) u
  | .v _,_,h=>h
  | .sl _ _,_,h=>h
  | .ow _ _ _,_,h=>h
  | .bp l off,_,⟨⟨hl,hv⟩,e⟩=>by
    simp only [Cell.cut];split
    · rename_i h;exact ⟨⟨h,h,hv⟩,e⟩
    · trivial
  | .ep _ _ _,_,h=>h
  | .fn f bs,_,⟨h,e⟩=>by
    simp only [Cell.cut];split
    · rename_i hb
      exact ⟨fun l hl =>
          have h1:l<n:=by simpa using List.all_eq_true.1 hb l hl
          ⟨h1,h1,(h l hl).2⟩,e⟩
    · trivial
  | .yl l,_,⟨⟨hl,hv⟩,e⟩=>by
    simp only [Cell.cut];split
    · rename_i h;exact ⟨⟨h,h,hv⟩,e⟩
    · trivial
  | .mu _ _ _,_,h=>h
  | .ar l t m,_,⟨⟨hl,hv⟩,e⟩=>by
    simp only [Cell.cut];split
    · rename_i h;exact ⟨⟨h,h,hv⟩,e⟩
    · trivial
  | .ae l t i off,_,⟨⟨hl,hv⟩,e⟩=>by
    simp only [Cell.cut];split
    · rename_i h;exact ⟨⟨h,h,hv⟩,e⟩
    · trivial
  | .mh l,_,⟨⟨hl,hv⟩,e⟩=>by
    simp only [Cell.cut];split
    · rename_i h;exact ⟨⟨h,h,hv⟩,e⟩
    · trivial
  | .ud,_,h=>h
  | .no,_,_=>trivial
theorem PtR.cut {loc:Nat→Loc}:{p:Pt}→{u:Value}→PtR nb g W loc p u→PtR n (g.cut n) W loc (p.cut n) u
  | .one _,_,h=>CR.cut h
  | .agg cs,_,⟨vs,e,l,r⟩=>⟨vs,e,by rw [List.length_map];exact l,fun k c v hc hv=>by
    rw [List.getElem?_map] at hc;obtain ⟨c0,h0,rfl⟩:=Option.map_eq_some_iff.mp hc;exact CR.cut (r k c0 v h0 hv)⟩
theorem AVR.cut:{x:AV}→{u:Value}→AVR nb g W fr i x u→AVR n (g.cut n) W fr i (x.cut n) u
  | .pt _,_,h=>PtR.cut h
  | .tup ps,_,⟨vs,e,l,r⟩=>⟨vs,e,by rw [List.length_map];exact l,fun j p v hp hv=>by
    rw [List.getElem?_map] at hp;obtain ⟨p0,h0,rfl⟩:=Option.map_eq_some_iff.mp hp;exact PtR.cut (r j p0 v h0 hv)⟩
theorem FrR.cut {tm:List AV} {a:Array Value} (h:FrR nb g W fr tm a):FrR n (g.cut n) W fr (tm.map (AV.cut n)) a :=
  ⟨by rw [List.length_map];exact h.1,fun i x v hx hv=>by
    rw [List.getElem?_map] at hx;obtain ⟨x0,h0,rfl⟩:=Option.map_eq_some_iff.mp hx;exact AVR.cut (h.2 i x0 v h0 hv)⟩
theorem jI {bx:List Bx} (h:n≤bx.length):(sw n bx).length=n:=by simp [sw,h]
theorem nR.cut {bx:List Bx} (hn:n≤bx.length) (h:nR g W bx):nR (g.cut n) W (sw n bx):=fun l B hB=>by
  rw [jI hn];have hl:l<n:=by have:=(List.getElem?_eq_some_iff.1 hB).1;rw [jI hn] at this;exact this
  unfold sw at hB;rw [List.getElem?_map,List.getElem?_take,if_pos hl] at hB;obtain ⟨B0,h0,rfl⟩:=Option.map_eq_some_iff.mp hB;have hb:=h l B0 h0;cases B0 with
  | box t cs =>
    obtain ⟨h0,h1,h2,vs,h3,h4,h5⟩:=hb;refine ⟨⟨hl,h0⟩,h1,h2,vs,h3,⟨by rw [List.length_map];exact h4.1,fun k c v hc hv => ?_⟩,h5⟩;rw [List.getElem?_map] at hc;obtain ⟨c0,h0,rfl⟩:=Option.map_eq_some_iff.mp hc;exact CR.cut (h4.2 k c0 v h0 hv)
  | lp e =>
    obtain ⟨h0,h1,h2,h3⟩:=hb;exact ⟨⟨hl,h0⟩,h1,h2,h3⟩
  | lpb =>
    obtain ⟨h0,h1,h2,h3⟩:=hb;exact ⟨⟨hl,h0⟩,h1,h2,h3⟩
  | arr e t xs =>
    obtain ⟨h0,h1⟩:=hb;exact ⟨⟨hl,h0⟩,CR.cut (n:=n) (nb:=bx.length) (c:=.mu e t xs) (ℓ:=.bx l) h1⟩
  | mi xs =>
    obtain ⟨h0,h1,h2,h3⟩:=hb;exact ⟨⟨hl,h0⟩,h1,h2,h3⟩
  | gone=>exact ⟨hl,hb⟩
  | no=>exact fun hv=>hb hv.2
theorem Wf.cut (h:Wf g W):Wf (g.cut n) W:=⟨h.pr,h.ow⟩
theorem sD {bx:List Bx} (hn:n≤bx.length):∀ l,(sw n bx).length≤l→¬ (g.cut n).lv l:=fun l hl hv=>by
  rw [jI hn] at hl;have:=hv.1;omega
theorem uT {ks:List Nat}:∀ {tm:List AV} {j i:Nat} {x:AV},(su ks j tm)[i]? = some x→x=.pt (.one .no)∨tm[i]? = some x
  | [],j,i,x,h=>by simp [su] at h
  | y :: r,j,0,x,h=>by
    simp [su] at h
    split at h
    · exact .inr (by simp [h])
    · exact .inl h.symm
  | y :: r,j,i+1,x,h=>by
    simp [su] at h
    rcases uT h with h | h
    · exact .inl h
    · exact .inr (by simpa using h)
theorem uU {ks:List Nat}:∀ {tm:List AV} {j:Nat},(su ks j tm).length=tm.length
  | [],j=>rfl
  | y :: r,j=>by simp [su,uU]
theorem FrR.kill {ks:Option (List Nat)} {tm:List AV} {a:Array Value} (h:FrR nb g W fr tm a):FrR nb g W fr (kill ks tm) a:=by
  cases ks with
  | none=>exact h
  | some ks =>
    refine ⟨by show (su ks 0 tm).length=_;rw [uU];exact h.1,fun i x v hx hv => ?_⟩;rcases uT hx with rfl | hx
    · trivial
    · exact h.2 i x v hx hv
def tY (s:Nat) (g:Gh) (W:World) (ds:List Deferred):Prop :=
  ∃ Ds:List Nat,ds=Ds.map (fun D=>{ target:=.collected D,args:=#[] })∧Ds.Nodup∧∀ D∈Ds,s≤D∧W.heap[D]? = some (.deferred (some []))∧g.ow D=none
theorem tY.evo {s:Nat} {ds:List Deferred} (h:Evo A nb g W g' W'):tY s g W ds→tY s g' W' ds
  | ⟨Ds,e,nd,hd⟩=>⟨Ds,e,nd,fun D hD=>by
    obtain ⟨h1,h2,h3⟩:=hd D hD;obtain ⟨f1,f2,_⟩:=h.far D (Array.getElem?_eq_some_iff.1 h2).1 (fun ℓ hl=>by rw [h3] at hl;cases hl);exact ⟨h1,f1.trans h2,f2.trans h3⟩⟩
theorem tY.nil {s:Nat}:tY s g W []:=⟨[],rfl,List.nodup_nil,fun D hD=>by cases hD⟩
theorem Evo.alloc {o:Obj} (hw:Wf g W):Evo A nb g W g (W.alloc o) :=
  ⟨rfl,rfl,rfl,by simp,fun b o' hp=>⟨hp,fun v hv=>kK hv⟩,fun b hb _=>⟨Below.heap_alloc _ _ _ hb,rfl,fun _ h=>h⟩,fun _ _ hv=>⟨hv,rfl,rfl,rfl⟩⟩
theorem Wf.alloc {o:Obj} (hw:Wf g W):Wf g (W.alloc o):=⟨fun b o' hp=>by have:=hw.pr b o' hp;simp;omega,fun b ℓ h=>by have:=hw.ow b ℓ h;simp;omega⟩
theorem tY.push {s:Nat} {ds:List Deferred} (hw:Wf g W) (hs:s≤W.heap.size) (h:tY s g W ds):tY s g (W.alloc (.deferred (some []))) ({ target:=.collected W.heap.size,args:=#[] } :: ds):=by
  obtain ⟨Ds,e,nd,hd⟩:=h.evo (Evo.alloc (A:=fun _=>True) (nb:=0) (o:=.deferred (some [])) hw);obtain ⟨aa,e0,nd0,hd0⟩:=h;have hD:Ds=aa:=by
    have:=e.symm.trans e0;have h2:=congrArg (List.map (fun d:Deferred=>match d.target with | .collected D=>D | _=>0)) this;simpa [Function.comp_def] using h2
  subst hD;refine ⟨W.heap.size :: Ds,by rw [e];rfl,List.nodup_cons.2 ⟨fun hm => ?_,nd⟩,fun D hD => ?_⟩
  · have:=(Array.getElem?_eq_some_iff.1 (hd0 _ hm).2.1).1
    omega
  · rcases List.mem_cons.1 hD with rfl | hD
    · refine ⟨hs,World.alloc_heap_new _ _,?_⟩
      cases ho:g.ow W.heap.size with
      | none=>rfl
      | some ℓ=>have:=hw.ow _ _ ho;omega
    · exact hd D hD
theorem iO {W:World} {b:Nat} {o:Obj} {k:Nat} (h:k≠b):(W.putObj b o).heap[k]? = W.heap[k]? := World.putObj_heap_other h
theorem ql {W:World} {b:Nat} {o:Obj} {k j:Nat} (h:k≠b):(W.putObj b o).cell? ⟨k,j,none⟩=W.cell? ⟨k,j,none⟩:=by
  unfold World.cell?;rw [show (W.putObj b o).heap[(Addr.mk k j none).block]? = W.heap[(Addr.mk k j none).block]? from iO h]
theorem Evo.put {L:Nat} {o:Obj} (h1:g.ow (g.bx L)=some (.bx L)) (h2:∀ j,¬ g.pr (g.bx L) j) (hA:∀ ℓ,A ℓ→ℓ≠.bx L):Evo A nb g W g (W.putObj (g.bx L) o) :=
  ⟨rfl,rfl,rfl,by rw [World.putObj_size];exact Nat.le_refl _,fun b j hp=>⟨hp,fun v hv=>by rw [ql (fun e=>h2 j (by rw [← e];exact hp))];exact hv⟩,
    fun b hb ho=>⟨iO (fun e=>hA _ (ho _ (by rw [e];exact h1)) rfl),rfl,fun _ h=>h⟩,fun _ _ hv=>⟨hv,rfl,rfl,rfl⟩⟩
def aec:Bx→Option (LoopState × Option Code)
  | .lp e=>some (if e=.normal then .ready else .done,e.code)
  | .lpb=>some (.busy,none)
  | _=>none
theorem BxR.lp {l:Nat} {B:Bx} {s:LoopState × Option Code} (hs:aec B=some s):BxR nb g W l B↔g.lv l∧g.ow (g.bx l)=some (.bx l)∧(∀ o,¬ g.pr (g.bx l) o)∧W.heap[g.bx l]? = some (.loop { g.lr l with state:=s.1,pending:=s.2 }):=by
  cases B with
  | lp e=>cases hs;exact Iff.rfl
  | lpb=>cases hs;exact Iff.rfl
  | box=>cases hs
  | arr=>cases hs
  | mi=>cases hs
  | gone=>cases hs
  | no=>cases hs
theorem adr {bx:List Bx} {L:Nat} {B B':Bx} {s s':LoopState × Option Code} (hw:Wf g W) (h:nR g W bx) (hL:bx[L]? = some B) (hB:aec B=some s) (hB':aec B'=some s') {o:Obj} (ho:o=.loop { g.lr L with state:=s'.1,pending:=s'.2 }) :
    Wf g (W.putObj (g.bx L) o)∧nR g (W.putObj (g.bx L) o) (bx.set L B')∧∀ (A:Loc→Prop) nb,(∀ ℓ,A ℓ→ℓ≠.bx L)→Evo A nb g W g (W.putObj (g.bx L) o):=by
  obtain ⟨h0,h1,h2,h3⟩:=(BxR.lp hB).1 (h L B hL);have hlt:=hw.ow _ _ h1;have hev:∀ (A:Loc→Prop) nb,(∀ ℓ,A ℓ→ℓ≠.bx L)→Evo A nb g W g (W.putObj (g.bx L) o):=fun A nb hA=>Evo.put h1 h2 hA;refine ⟨⟨fun b o' hp=>by rw [World.putObj_size];exact hw.pr b o' hp,fun b ℓ hb=>by rw [World.putObj_size];exact hw.ow b ℓ hb⟩,fun l B1 hB1 => ?_,hev⟩;rw [List.length_set];rw [List.getElem?_set] at hB1;by_cases e:L=l
  · subst e
    rw [if_pos rfl] at hB1;split at hB1
    case isFalse=>cases hB1
    cases hB1
    exact (BxR.lp hB').2 ⟨h0,h1,h2,by rw [World.putObj_heap_same hlt,ho]⟩
  · rw [if_neg e] at hB1
    exact BxR.evo (A:=fun ℓ=>ℓ≠.bx L) (hev _ bx.length (fun _ h=>h)) (Nat.le_refl _) hw (List.getElem?_eq_some_iff.1 hB1).1 (fun k=>by simp) (fun e'=>e (by cases e';rfl)) (fun h=>h) (h l B1 hB1)
theorem ads {bx:List Bx} {r:Loop} (hw:Wf g W) (h:nR g W bx) (ht:∀ l,bx.length≤l→¬ g.lv l) (hr:{ r with state:=.ready,pending:=none }=r) :
    ∃ g1:Gh,g1.bx bx.length=W.heap.size∧g1.lr bx.length=r∧g1.lv bx.length∧Wf g1 (W.alloc (.loop r))∧nR g1 (W.alloc (.loop r)) (bx++[.lp .normal])∧(∀ l,(bx++[Bx.lp .normal]).length≤l→¬ g1.lv l)∧∀ (A:Loc→Prop) nb,Evo A nb g W g1 (W.alloc (.loop r)):=by
  have hlv:¬ g.lv bx.length:=ht _ (Nat.le_refl _);have hev:∀ (A:Loc→Prop) nb,Evo A nb g W (g.var bx.length W.heap.size r) (W.alloc (.loop r)):=fun A nb=>Evo.var hw hlv _;have hbl:(g.var bx.length W.heap.size r).bx bx.length=W.heap.size:=by show (if bx.length=bx.length then _ else _)=_;rw [if_pos rfl]
  have hrl:(g.var bx.length W.heap.size r).lr bx.length=r:=by show (if bx.length=bx.length then _ else _)=_;rw [if_pos rfl]
  have hlen:(bx++[Bx.lp .normal]).length=bx.length+1:=by simp
  refine ⟨g.var bx.length W.heap.size r,hbl,hrl,.inl rfl,hw.var,fun l B hB => ?_,fun l hl hv => ?_,hev⟩
  · rw [hlen]
    by_cases e:l<bx.length
    · rw [List.getElem?_append_left e] at hB
      exact BxR.evo (hev (fun _=>True) bx.length) (Nat.le_succ _) hw e (fun _=>trivial) trivial (fun hv=>hv.resolve_left (by omega)) (h l B hB)
    · have hl:=(List.getElem?_eq_some_iff.1 hB).1
      rw [hlen] at hl;obtain rfl:l=bx.length:=by omega
      rw [List.getElem?_append_right (Nat.le_refl _)] at hB;simp at hB;subst hB;refine (BxR.lp (B:=.lp .normal) rfl).2 ⟨.inl rfl,?_,?_,?_⟩
      · rw [hbl];show (if W.heap.size=W.heap.size then _ else _)=_;rw [if_pos rfl]
      · rw [hbl];exact fun o ho=>by have:=hw.pr _ _ ho;omega
      · rw [hbl,hrl]
        exact (World.alloc_heap_new _ _).trans (congrArg (fun r=>some (Obj.loop r)) hr.symm)
  · rw [hlen] at hl
    rcases hv with rfl | hv
    · omega
    · exact ht l (by omega) hv
end
end
end Go.Proofs.YtcomnjodjijcmaaGreat.M
namespace Go.Proofs.YtcomnjodjijcmaaGreat.M
noncomputable section
set_option linter.unusedVariables false
set_option linter.unusedSimpArgs false
open Go.RowKit Go.Proofs.YtcomnjodjijcmaaGreatW.dz Go.Proofs.YtcomnjodjijcmaaGreatW.dX
def dQ.rF:dQ→Exit
  | .normal=>.normal
  | .exit id=>.exit id
  | .ret=>.ret
  | .goto l=>.goto l
section
variable {P:Program}
def aeW (g:Gh) (nb:Nat) (rl ro:Option Nat):Prop:=(rl=none∧ro=none)∨∃ l,rl=some l∧l<nb∧g.lv l∧ro=some (g.bx l)
theorem aeW.evo {A:Loc→Prop} {nb nb':Nat} {g g':Gh} {W W':World} {rl ro:Option Nat} (h:Evo A nb g W g' W') (hn:nb≤nb'):aeW g nb rl ro→aeW g' nb' rl ro
  | .inl h=>.inl h
  | .inr ⟨l,e,hl,hv,er⟩=>.inr ⟨l,e,Nat.lt_of_lt_of_le hl hn,(h.bx l hl hv).1,by rw [(h.bx l hl hv).2.1];exact er⟩
def YOk (P:Program) (Y:Hd) (nb:Nat) (g:Gh) (W:World):Prop:=∀ q h,Y q=some h→∀ (g1:Gh) (W1:World) (fr d:Nat) (ys:List AV) (vs:Array Value) (bx bx':List Bx) (r:AV),
  Evo (fun _=>False) nb g W g1 W1→nb≤bx.length→Wf g1 W1→nR g1 W1 bx→(∀ l,bx.length≤l→¬ g1.lv l)→ys.length=vs.size→(∀ (i:Nat) (x:AV) (v:Value),ys[i]? = some x→vs[i]? = some v→∀ fr' i',AVR bx.length g1 W1 fr' i' x v) →
    h ys bx=some (r,bx')→Does P (.func (.yield (g1.bx q)) #[] #[]) vs W1 (After fr d g1 W1 bx bx' r)
theorem YOk.evo {Y:Hd} {A:Loc→Prop} {nb nb':Nat} {g g':Gh} {W W':World} (h:YOk P Y nb g W) (hE:Evo A nb g W g' W') (hn:nb≤nb'):YOk P Y nb' g' W' :=
  fun q f hf g1 W1 fr d ys vs bx bx' r h1 h2=>h q f hf g1 W1 fr d ys vs bx bx' r ((hE.weaken (fun _ h=>h.elim) (Nat.le_refl _)).trans h1 hn) (Nat.le_trans hn h2)
theorem mQ {F:Fence} {n:Nat} {Q:Exit→Act→World→Prop} {a:Act} {w:World} {c:Code} (h:c.wpIn F n P (Exit.noGoto Q) a w):(Code.scope c).wpIn F n P Q a w:=by
  intro b k cs hro hb hr;have h0:(lone (b.atR a (.code (.scope c) :: k)) cs w).fenced P F:=fenced_calm hb hr rfl;have s0:_root_.Go.step P (lone (b.atR a (.code (.scope c) :: k)) cs w)=.next (lone (b.atR a (.code c :: .inScope c :: k)) cs w):=step_lone_go (by simp [stepG,stepG.exec,Frame.atR])
  have s1:∀ a w,_root_.Go.step P (lone (b.atR a (.inScope c :: k)) cs w)=.next (lone (b.atR a k) cs w):=fun a w=>step_lone_go (by simp [stepG,stepG.exec,Frame.atR])
  obtain ⟨e,a₁,w₁,hq,harr⟩:=h b (.inScope c :: k) cs hro hb hr;cases e with
  | normal=>exact ⟨.normal,a₁,w₁,hq,.head h0 s0 (StepsIn.trans harr (.one (fenced_calm hb hr rfl) (s1 _ _)))⟩
  | exit id =>
    have hx:exitTo id (.inScope c :: k)=exitTo id k:=by simp [exitTo]
    exact ⟨.exit id,a₁,w₁,hq,fun k' hk=>.head h0 s0 (harr.1 k' (by rw [hx];exact hk)),
      fun hr' hk=>let ⟨k₁,h1,h2⟩:=harr.2 hr' (by rw [hx];exact hk);⟨k₁,h1,.head h0 s0 h2⟩⟩
  | goto l=>exact hq.elim
  | ret=>exact ⟨_,a₁,w₁,hq,.of_steps (.one h0 s0) harr⟩
  | panic ch=>exact ⟨_,a₁,w₁,hq,.of_steps (.one h0 s0) harr⟩
  | outgrown=>exact ⟨_,a₁,w₁,hq,.of_steps (.one h0 s0) harr⟩
def mK (P:Program) (x:Code) (F:St→Option (dQ × St)) (Y:Hd) (rl:Option Nat):Prop :=
  ∀ (σ:St) (e:dQ) (σ':St),F σ=some (e,σ')→∀ (ro:Option Nat) (fr s:Nat) (g:Gh) (W:World) (a:Act) (n:Nat) (Q:Exit→Act→World→Prop),
    YOk P Y σ.bx.length g W→aeW g σ.bx.length rl ro→tY s g W a.defers→s≤W.heap.size→Rel fr g W σ a.tmps →
    (∀ (g':Gh) (W':World) (a':Act),Rel fr g' W' σ' a'.tmps→Evo (Loc.below fr) σ.bx.length g W g' W'→σ.bx.length≤σ'.bx.length→tY s g' W' a'.defers→Q e.rF a' W')→x.wpIn (Fn ro) n P Q a W
theorem aaM {x:Code} {F:Nat→St→Option (dQ × St)} {Y:Hd} {rl:Option Nat} (ih:∀ k,mK P x (F k) Y rl) {ds xs:Option (List Nat)} {N:Nat} {ro:Option Nat} {fr s:Nat} {n:Nat} {Q:Exit→Act→World→Prop} {gI:Gh} {WI:World} {σ':St} {e:dQ}
    (hQ:∀ (g':Gh) (W':World) (a':Act),Rel fr g' W' σ' a'.tmps→Evo (Loc.below fr) N gI WI g' W'→N≤σ'.bx.length→tY s g' W' a'.defers→Q e.rF a' W') :
    ∀ (k:Nat) (σ:St) (g:Gh) (W:World) (a:Act),zu F ds xs N k σ=some (e,σ')→σ.bx.length=N→YOk P Y N g W→aeW g N rl ro→tY s g W a.defers→s≤W.heap.size→Rel fr g W σ a.tmps→Evo (Loc.below fr) N gI WI g W→Code.roundsIn (Fn ro) n P x Q k a W
  | 0,σ,g,W,a,hs,_,_,_,_,_,_,_=>by cases hs
  | k+1,σ,g,W,a,hs,hN,hY,hr,hD,hsz,hR,hE=>by
    obtain ⟨⟨e1,σ1⟩,h1,h2⟩:=Option.bind_eq_some_iff.mp hs;subst hN;refine ih k σ e1 σ1 h1 ro fr s g W a n _ hY hr hD hsz hR (fun g1 W1 a1 aa hE1 hl1 hD1 => ?_);have hE2:Evo (Loc.below fr) σ.bx.length g W (g1.cut σ.bx.length) W1:=hE1.trans Evo.cut (Nat.le_refl _);have hc:=jI hl1;have hR2:∀ ks,Rel fr (g1.cut σ.bx.length) W1 (aeV ks σ.bx.length σ1) a1.tmps:=fun ks=>⟨aa.wf.cut,by
      show FrR (sw _ _).length _ _ _ _ _;rw [hc];exact aa.fr.cut.kill,aa.bx.cut hl1,sD hl1⟩
    have hD2:tY s (g1.cut σ.bx.length) W1 a1.defers:=hD1.evo (A:=Loc.below fr) Evo.cut;have hfin:some (e1,aeV xs σ.bx.length σ1)=some (e,σ')→Q e1.rF a1 W1:=fun h=>by
      cases h
      exact hQ _ W1 a1 (hR2 xs) (hE.trans hE2 (Nat.le_refl _)) (Nat.le_of_eq hc.symm) hD2
    cases e1 with
    | normal=>exact aaM ih hQ k _ (g1.cut σ.bx.length) W1 a1 h2 hc (hY.evo hE2 (Nat.le_refl _)) (hr.evo hE2 (Nat.le_refl _)) hD2 (Nat.le_trans hsz hE1.size) (hR2 ds) (hE.trans hE2 (Nat.le_refl _))
    | exit id=>exact hfin h2
    | ret=>exact hfin h2
    | goto l=>exact hfin h2
end
end
end Go.Proofs.YtcomnjodjijcmaaGreat.M
namespace Go.Proofs.YtcomnjodjijcmaaGreat.M
noncomputable section
set_option linter.unusedVariables false
set_option linter.unusedSimpArgs false
open Go.RowKit Go.Proofs.YtcomnjodjijcmaaGreatW.dz Go.Proofs.YtcomnjodjijcmaaGreatW.dX
section
variable {P:Program}
theorem Does.yield {l:Nat} {f:FuncId} {tmps vs:Array Value} {asg body:Code} {W:World} {R:Value→World→Prop} (hy:(Instr.yield l vs).run P W=.ok (.round l f tmps asg body) W)
    (h:∀ n,RoundIn Fence.wide n P l f tmps asg body W fun e W'=>∃ v,e=.returned v∧R v W'):Does P (.func (.yield l) #[] #[]) vs W R:=by
  refine ⟨?_,fun ro n o c g a K Q ho hc hg hv hk => ?_⟩
  · obtain ⟨e,W',⟨v,_,hR⟩,_⟩:=(h 0).2 default [] (room_wide _)
    exact ⟨v,W',hR⟩
  · refine zl (l:=l) (f:=f) (tmps:=tmps) (assign:=asg) (body:=body) (W':=W) (fun c' e=>by rw [ho] at e;cases e) ?_ ((h _).mono ?_)
    · unfold execOp
      rw [ho];simp only [resolve,hc,hg,hv,Deferred.ofValue,Sem.run_bind,Sem.run_pure,Result.andThen_ok,invoke];simpa using hy
    · rintro e w ⟨v,rfl,hR⟩
      exact ⟨v,rfl,hk v w hR⟩
theorem oL {nb:Nat} {g:Gh} {W:World} {fr:Nat}:∀ {ps:List Nat} {ys:List AV} {vs:List Value} {tm:List AV} {t:Array Value},ys.length=vs.length→(∀ (i:Nat) (x:AV) (v:Value),ys[i]? = some x→vs[i]? = some v→∀ fr' i',AVR nb g W fr' i' x v)→FrR nb g W fr tm t →
    FrR nb g W fr (lN tm ps ys) ((ps.zip vs).foldl (fun tmps p=>tmps.setIfInBounds p.1 p.2) t)
  | [],ys,vs,tm,t,_,_,h=>h
  | p :: ps,[],vs,tm,t,hl,_,h=>by
    have:vs=[]:=List.length_eq_zero_iff.1 hl.symm;subst this;exact h
  | p :: ps,y :: ys,[],tm,t,hl,_,h=>by simp at hl
  | p :: ps,y :: ys,v :: vs,tm,t,hl,hy,h=>by
    refine oL (ps:=ps) (by simpa using hl) (fun i x u hx hu=>hy (i+1) x u (by simpa using hx) (by simpa using hu)) ?_;exact FrR.put (a:={ tmps:=t,defers:=[] }) (d:=some p) h (fun d' _=>hy 0 y v rfl rfl fr d')
theorem uV {e:dQ}:e.code.isNone=decide (e=.normal):=by cases e <;> simp [dQ.code]
theorem acA {x y:Code} {FA FB:St→Option (dQ × St)} {Y:Hd} {L:Nat} (aj:mK P x FA Y (some L)) (ihy:mK P y FB Y (some L)) {ps:Array Tmp} {tm:List AV} {fr:Nat} {g:Gh} {W:World} {tmps:Array Value} {fn:FuncId}
    (hY:YOk P Y L g W) (hF:FrR L g W fr tm tmps) (hlv:g.lv L) (hlr:(g.lr L).fn=fn∧(g.lr L).tmps=tmps∧(g.lr L).params=ps∧(g.lr L).assign=x∧(g.lr L).body=y)
    (g1:Gh) (W1:World) (aa d:Nat) (ys:List AV) (vs:Array Value) (bx bx':List Bx) (r:AV) (hE:Evo (fun _=>False) (L+1) g W g1 W1) (hn:L+1≤bx.length) (hw:Wf g1 W1) (hb:nR g1 W1 bx) (ht:∀ l,bx.length≤l→¬ g1.lv l) (hl:ys.length=vs.size) (hy:∀ (i:Nat) (x:AV) (v:Value),ys[i]? = some x→vs[i]? = some v→∀ fr' i',AVR bx.length g1 W1 fr' i' x v)
    (hs:qj L ps.toList tm FA FB ys bx=some (r,bx')):Does P (.func (.yield (g1.bx L)) #[] #[]) vs W1 (After aa d g1 W1 bx bx' r):=by
  obtain ⟨v1,v2,v3,_⟩:=hE.bx L (Nat.lt_succ_self L) hlv;unfold qj at hs;split at hs
  case h_2=>cases hs
  rename_i hbx
  split at hs
  case isFalse=>cases hs
  rename_i hps
  split at hs
  case h_2=>cases hs
  rename_i σ1 hA
  split at hs
  case h_2=>cases hs
  rename_i hbx1
  split at hs
  case h_2=>cases hs
  rename_i e2 σ2 hB
  split at hs
  case h_2=>cases hs
  rename_i hbx2
  cases hs
  obtain ⟨q0,q1,q2,q3⟩:=(BxR.lp (B:=.lp .normal) rfl).1 (hb L _ hbx);obtain ⟨e1,e2',e3,e4,e5⟩:=hlr;rw [← v3] at e1 e2' e3 e4 e5;refine Does.yield (f:=fn) (tmps:=(ps.toList.zip vs.toList).foldl (fun tmps p=>tmps.setIfInBounds p.1 p.2) tmps) (asg:=x) (body:=y) ?_ (fun n => ?_)
  · rw [run_yield q3 (by show vs.size=(g1.lr L).params.size;rw [e3,← hl,hps];simp)]
    simp only [e1,e2',e3,e4,e5];congr 2;rw [← Array.foldl_toList,Array.toList_zip]
  refine roundIn_of_wpIn trivial ?_;have ak:Rel (aa+1) g1 W1 ⟨lN (tm.map AV.un) ps.toList ys,bx⟩ ((ps.toList.zip vs.toList).foldl (fun tmps p=>tmps.setIfInBounds p.1 p.2) tmps) :=
    ⟨hw,oL (by simpa using hl) (fun i x v hx hv=>hy i x v hx (by simpa using hv)) (hF.acj (hE.weaken (fun _ h=>h) (Nat.le_succ L)) (Nat.le_of_succ_le (show L+1≤bx.length from hn))),hb,ht⟩
  have ac:YOk P Y bx.length g1 W1:=hY.evo (hE.weaken (fun _ h=>h) (Nat.le_succ L)) (Nat.le_of_succ_le hn);have hL:L<bx.length:=hn;refine aj _ _ _ hA (some (g1.bx L)) (aa+1) 0 g1 W1 _ n _ ac (.inr ⟨L,rfl,hL,v1,rfl⟩) tY.nil (Nat.zero_le _) ak (fun g2 W2 a2 hR2 hE2 hl2 hD2 => ?_);obtain ⟨w1,w2,w3⟩:=hE2.bx L hL v1;obtain ⟨p0,p1,p2,p3⟩:=(BxR.lp (B:=.lp .normal) rfl).1 (hR2.bx L _ hbx1);obtain ⟨k1,k2,k3⟩:=adr (B':=.lpb) (s':=(.busy,none)) hR2.wf hR2.bx hbx1 rfl rfl (o:=.loop { g2.lr L with state:=.busy,pending:=none }) rfl;have hbel:∀ ℓ:Loc,ℓ.below (aa+1)→ℓ≠.bx L:=fun ℓ h e=>by rw [e] at h;exact h
  have am:=k3 (fun ℓ=>ℓ≠.bx L) σ1.bx.length (fun _ h=>h);have af:=hE2.trans (k3 (Loc.below (aa+1)) σ1.bx.length hbel) hl2;have ao:Rel (aa+1) g2 (W2.putObj (g2.bx L) (.loop { g2.lr L with state:=.busy,pending:=none })) ⟨σ1.tm,σ1.bx.set L .lpb⟩ a2.tmps :=
    ⟨k1,by
      show FrR (σ1.bx.set L .lpb).length _ _ _ _ _;rw [List.length_set];exact hR2.fr.evo am (Nat.le_refl _) (fun i j k=>by simp),k2,fun l hl=>hR2.top l (by simpa using hl)⟩
  refine ⟨_,by rw [← w2];exact run_beginRound p3 rfl,?_⟩;refine ihy _ _ _ hB (some (g1.bx L)) (aa+1) 0 g2 _ a2 n _ (by rw [List.length_set];exact ac.evo af hl2) (.inr ⟨L,rfl,by rw [List.length_set];exact Nat.lt_of_lt_of_le hL hl2,w1,by rw [w2]⟩) (hD2.evo (k3 (Loc.below (aa+1)) 0 hbel)) (Nat.zero_le _) ao (fun g4 W4 a4 ab ah hl4 hD4 => ?_);rw [List.length_set] at ah hl4;have ai:=af.trans ah hl2;have hN:bx.length≤σ2.bx.length:=Nat.le_trans hl2 hl4;obtain ⟨z1,z2,z3,_⟩:=ai.bx L hL v1;obtain ⟨m0,m1,m2,m3⟩:=(BxR.lp (B:=.lpb) rfl).1 (ab.bx L _ hbx2);obtain ⟨j1,j2,j3⟩:=adr (B':=.lp e2) ab.wf ab.bx hbx2 rfl rfl (o:=.loop { g4.lr L with state:=if e2=.normal then .ready else .done,pending:=e2.code }) rfl;have hend:(Instr.endRound (g1.bx L) e2.code).run P W4=.ok (.bool e2.code.isNone) (W4.putObj (g4.bx L) (.loop { g4.lr L with state:=if e2=.normal then .ready else .done,pending:=e2.code })):=by
    rw [← z2,run_endRound e2.code m3,uV];by_cases h:e2=.normal <;> simp [h]
  have hcut:(sw bx.length σ2.bx).set L (.lp e2)=sw bx.length (σ2.bx.set L (.lp e2)):=by
    simp only [sw,List.take_set,List.map_set];rfl
  have hN':bx.length≤(σ2.bx.set L (.lp e2)).length:=by rw [List.length_set];exact hN
  have hA:After aa d g1 W1 bx ((sw bx.length σ2.bx).set L (.lp e2)) (mq (decide (e2=.normal))) (.bool e2.code.isNone) (W4.putObj (g4.bx L) (.loop { g4.lr L with state:=if e2=.normal then .ready else .done,pending:=e2.code })):=by
    rw [hcut];refine ⟨g4.cut bx.length,j1.cut,j2.cut hN',sD hN',by rw [jI hN'];exact Nat.le_refl _,(ai.trans (j3 (Loc.below (aa+1)) bx.length hbel) (Nat.le_refl _)).trans Evo.cut (Nat.le_refl _),?_⟩;exact ⟨by rw [uV],rfl⟩
  cases e2 with
  | normal=>exact ⟨_,_,hend,_,rfl,hA⟩
  | ret=>exact ⟨_,_,hend,_,rfl,hA⟩
  | exit id=>exact ⟨_,_,hend,_,rfl,hA⟩
  | goto l=>exact ⟨_,_,hend,_,rfl,hA⟩
end
end
end Go.Proofs.YtcomnjodjijcmaaGreat.M
namespace Go.Proofs.YtcomnjodjijcmaaGreat.M
noncomputable section
set_option linter.unusedVariables false
set_option linter.unusedSimpArgs false
open Go.RowKit Go.Proofs.YtcomnjodjijcmaaGreatW.dz Go.Proofs.YtcomnjodjijcmaaGreatW.dX
section
variable {P:Program}
theorem acB {σ:St} {fr s:Nat} {g:Gh} {W:World} {a:Act} {rl ro:Option Nat} (hR:Rel fr g W σ a.tmps) (hr:aeW g σ.bx.length rl ro) (hrl:inB rl σ.bx=true) (hD:tY s g W a.defers) (hs:s≤W.heap.size) (fn:FuncId) (ps:Array Tmp) (x y:Code) :
    ∃ (g1:Gh) (W1:World) (mark:List Deferred),(Instr.enterLoop fn a.tmps ps x y ro).run P W=.ok (g1.bx σ.bx.length,mark) W1∧g1.lv σ.bx.length∧((g1.lr σ.bx.length).fn=fn∧(g1.lr σ.bx.length).tmps=a.tmps∧(g1.lr σ.bx.length).params=ps∧(g1.lr σ.bx.length).assign=x∧(g1.lr σ.bx.length).body=y) ∧
      Wf g1 W1∧nR g1 W1 (σ.bx++[.lp .normal])∧(∀ l,(σ.bx++[Bx.lp .normal]).length≤l→¬ g1.lv l)∧(∀ (A:Loc→Prop) nb,Evo A nb g W g1 W1)∧tY s g1 W1 (mark++a.defers):=by
  rcases hr with ⟨rfl,rfl⟩ | ⟨l0,rfl,hl,hv,rfl⟩
  · have hw1:Wf g (W.alloc (.deferred (some []))):=hR.wf.alloc
    have hE1:∀ (A:Loc→Prop) nb,Evo A nb g W g (W.alloc (.deferred (some []))):=fun A nb=>Evo.alloc hR.wf;have hb1:nR g (W.alloc (.deferred (some []))) σ.bx:=fun l B hB=>BxR.evo (hE1 (fun _=>True) σ.bx.length) (Nat.le_refl _) hR.wf (List.getElem?_eq_some_iff.1 hB).1 (fun _=>trivial) trivial (fun h=>h) (hR.bx l B hB);obtain ⟨g1,q1,q2,q3,q4,q5,q6,q7⟩:=ads (r:={ state:=.ready,pending:=none,fn:=fn,tmps:=a.tmps,params:=ps,assign:=x,body:=y,defers:=W.heap.size }) hw1 hb1 hR.top rfl;refine ⟨g1,_,[{ target:=.collected W.heap.size,args:=#[] }],?_,q3,by rw [q2];exact ⟨rfl,rfl,rfl,rfl,rfl⟩,q4,q5,q6,fun A nb=>(hE1 A nb).trans (q7 A nb) (Nat.le_refl _),(tY.push hR.wf hs hD).evo (q7 (fun _=>True) 0)⟩;rw [run_enterLoop_outer,q1];simp
  · cases hb:σ.bx[l0]? with
    | none=>simp [inB,hb] at hrl
    | some B =>
      simp only [inB,hb] at hrl;cases B with
      | lpb =>
        obtain ⟨b0,b1,b2,b3⟩:=(BxR.lp (B:=.lpb) rfl).1 (hR.bx l0 _ hb);obtain ⟨g1,q1,q2,q3,q4,q5,q6,q7⟩:=ads (r:={ state:=.ready,pending:=none,fn:=fn,tmps:=a.tmps,params:=ps,assign:=x,body:=y,defers:=(g.lr l0).defers }) hR.wf hR.bx hR.top rfl;refine ⟨g1,_,[],?_,q3,by rw [q2];exact ⟨rfl,rfl,rfl,rfl,rfl⟩,q4,q5,q6,q7,hD.evo (q7 (fun _=>True) 0)⟩;rw [run_enterLoop_inner b3,q1]
      | box=>cases hrl
      | arr=>cases hrl
      | mi=>cases hrl
      | gone=>cases hrl
      | lp=>cases hrl
      | no=>cases hrl
theorem zx {ro:Option Nat} {n:Nat} {f:FuncId} {args:Array Value} {W:World} {R:Ending→World→Prop} (h:Calls P f args W R):CallsIn (Fn ro) n P f args W R:=by
  have h1:CallsIn Fence.wide n P f args W R:=callsIn_wide.2 h;cases ro with
  | none=>exact h1
  | some L=>exact h1
def sF (P:Program) (fF:Hd→Nat→ji):Prop:=∀ (Y:Hd) (k nb:Nat) (g:Gh) (W:World) (fr:Nat),YOk P Y nb g W→mJ P (fF Y k) fr g W nb
theorem uW {f:FuncId} {fn:Func} (hf:P.funcs[f]? = some fn) (hn:(fn.name == "runtime.NumGoroutine")=false) (hb:fn.body.isSome=true) {caps args:Array Value} {W:World}:(invoke (.fn (.func f) caps) args).run P W=.ok (.enter f (args++caps)) W:=by
  simp only [invoke];exact oJ hf hn hb _ W
theorem acC {Ek:Nat→Env} {A:Ann} {fF:Hd→Nat→ji} (hG:sF P fF) (hT:∀ k,lX P (Ek k).T)
    {f:Operand} {ps:Array Tmp} {x y:Code} (ab:∀ (Y:Hd) rl k cur,mK P x (iY Ek A fF Y rl x k cur) Y rl) (ihy:∀ (Y:Hd) rl k cur,mK P y (iY Ek A fF Y rl y k cur) Y rl) (Y:Hd) (rl:Option Nat) (k cur:Nat) :
    mK P (.rangeFunc f ps x y) (iY Ek A fF Y rl (.rangeFunc f ps x y) k cur) Y rl:=by
  intro σ e σ' hs ro fr s g W a n Q hY hr hD hsz hR hQ;simp only [iY] at hs;split at hs
  case h_2=>cases hs
  rename_i fid bs hop
  split at hs
  case isFalse=>cases hs
  rename_i hrl
  split at hs
  case h_2=>cases hs
  rename_i r bx2 hcall
  split at hs
  case h_2=>cases hs
  rename_i e0 hbx2
  cases hs
  have ac:=fQ hR hop fr 0;refine wpIn_rangeFunc fun fn _ => ?_;obtain ⟨g1,W1,mark,hent,hlv,hlr,hw1,hb1,ht1,hE1,hD1⟩:=acB (P:=P) hR hr hrl hD hsz fn ps x y;have hlen:(σ.bx++[Bx.lp .normal]).length=σ.bx.length+1:=by simp
  obtain ⟨hcl,heq⟩:=ac;have hcr:CR (σ.bx.length+1) g1 W1 (.bx 0) (.fn fid bs) (a.eval f):=CR.evo (hE1 (fun _=>True) σ.bx.length) (Nat.le_succ _) (c:=.fn fid bs) (ℓ:=.bx 0) ⟨hcl,heq⟩ (fun _=>trivial);have af:YOk P (zq Y σ.bx.length (qj σ.bx.length ps.toList σ.tm (iY Ek A fF Y (some σ.bx.length) x k cur) (iY Ek A fF Y (some σ.bx.length) y k cur))) (σ.bx.length+1) g1 W1:=by
    intro q h hq;unfold zq at hq;by_cases eq:q=σ.bx.length
    · subst eq
      rw [if_pos rfl] at hq;cases hq;exact acA (ab Y _ k cur) (ihy Y _ k cur) (hY.evo (hE1 (fun _=>True) _) (Nat.le_refl _)) (hR.fr.evo (hE1 (fun _=>True) _) (Nat.le_refl _) (fun _ _ _=>trivial)) hlv hlr
    · rw [if_neg eq] at hq
      exact hY.evo (hE1 (fun _=>True) _) (Nat.le_succ _) q h hq
  have hC:=hG _ k (σ.bx.length+1) g1 W1 fr af;obtain ⟨_,aa⟩:=hC g1 W1 0 [.pt (.one (.yl σ.bx.length))] #[.func (.yield (g1.bx σ.bx.length)) #[] #[]] (.fn fid bs) (a.eval f) (σ.bx++[.lp .normal]) bx2 r (Evo.refl _ _ _ _) (by rw [hlen];exact Nat.le_refl _) hw1 hb1 ht1 (by rw [hlen];exact hcr) rfl (fun i z v hz hv fr' i'=>by
    cases i with
    | zero =>
      simp at hz hv
      subst hz;subst hv;exact ⟨⟨by rw [hlen];exact Nat.lt_succ_self _,hlv⟩,rfl⟩
    | succ i=>simp at hz) hcall
  obtain ⟨⟨fn',p1,p2,p3⟩,aa,_⟩:=aa fid _ heq;refine ⟨g1.bx σ.bx.length,mark,W1,{ target:=.fn (.func fid) (bs.map fun l=>Value.pointer (some ⟨g.bx l,0,none⟩)).toArray,args:=#[.func (.yield (g1.bx σ.bx.length)) #[] #[]] },W1,fid,_,W1,by rw [acy];exact hent,?_,fun f' _=>aaH ro f',uW p1 p2 p3,(fun h=>by rw [sj] at h;cases h),?_⟩
  · simp only [resolve,rangeCall,heq,Deferred.ofValue,Sem.run_pure]
    simp [Act.eval]
  · refine zx (aa.mono ?_)
    rintro e w3 ⟨v,rfl,g3,k1,k2,k3,k4,k5,k6⟩;rw [hlen] at k4 k5;obtain ⟨b0,b1,b2,b3⟩:=(BxR.lp (B:=.lp e) rfl).1 (k2 _ _ hbx2);obtain ⟨z1,z2,z3,_⟩:=k5.bx σ.bx.length (Nat.lt_succ_self _) hlv;obtain ⟨j1,j2,j3⟩:Wf g3 (w3.putObj (g3.bx σ.bx.length) (.loop { g3.lr σ.bx.length with state:=.exhausted,pending:=e.code }))∧True∧∀ (A:Loc→Prop) nb,(∀ ℓ,A ℓ→ℓ≠.bx σ.bx.length)→Evo A nb g3 w3 g3 (w3.putObj (g3.bx σ.bx.length) (.loop { g3.lr σ.bx.length with state:=.exhausted,pending:=e.code })) :=
      ⟨⟨fun b o' hp=>by rw [World.putObj_size];exact k1.pr b o' hp,fun b ℓ hb=>by rw [World.putObj_size];exact k1.ow b ℓ hb⟩,trivial,fun A nb hA=>Evo.put b1 b2 hA⟩
    have hbel:∀ ℓ:Loc,ℓ.below (fr+1)→ℓ≠.bx σ.bx.length:=fun ℓ h e=>by rw [e] at h;exact h
    have hend:(Instr.endLoop (g1.bx σ.bx.length)).run P w3=.ok e.code (w3.putObj (g3.bx σ.bx.length) (.loop { g3.lr σ.bx.length with state:=.exhausted,pending:=e.code })):=by
      rw [← z2,run_endLoop b3 (by by_cases h:e=.normal <;> simp [h])]
    have hN:σ.bx.length≤bx2.length:=Nat.le_of_succ_le k4;have hEa:Evo (Loc.below (fr+1)) σ.bx.length g W (g3.cut σ.bx.length) (w3.putObj (g3.bx σ.bx.length) (.loop { g3.lr σ.bx.length with state:=.exhausted,pending:=e.code })) :=
      (((hE1 (Loc.below (fr+1)) σ.bx.length).trans (k5.weaken (fun _ h=>h) (Nat.le_succ _)) (Nat.le_refl _)).trans (j3 _ _ hbel) (Nat.le_refl _)).trans Evo.cut (Nat.le_refl _)
    have ah:Evo (Loc.below (fr+1)) (σ.bx.length+1) g1 W1 g3 (w3.putObj (g3.bx σ.bx.length) (.loop { g3.lr σ.bx.length with state:=.exhausted,pending:=e.code })):=k5.trans (j3 _ _ hbel) (Nat.le_refl _);have hq:Q e.rF { a with defers:=mark++a.defers } (w3.putObj (g3.bx σ.bx.length) (.loop { g3.lr σ.bx.length with state:=.exhausted,pending:=e.code })):=by
      refine hQ (g3.cut σ.bx.length) _ _ ⟨j1.cut,?_,?_,sD hN⟩ (hEa.weaken (fun ℓ=>Loc.qU (Nat.le_succ _)) (Nat.le_refl _)) ?_ ((hD1.evo ah).evo (A:=Loc.below (fr+1)) Evo.cut)
      · show FrR (sw _ _).length _ _ _ _ _
        rw [jI hN];exact hR.fr.evo hEa (Nat.le_refl _) (fun i j k=>Nat.lt_succ_self fr)
      · intro l B hB
        have hl:l<σ.bx.length:=by have:=(List.getElem?_eq_some_iff.1 hB).1;simp only [jI hN] at this;exact this
        have hB2:=k2.cut hN l B hB;refine BxR.evo (A:=fun ℓ=>ℓ≠.bx σ.bx.length) ((Evo.put (W:=w3) (g:=g3.cut σ.bx.length) (L:=σ.bx.length) (nb:=(sw σ.bx.length bx2).length) b1 b2 (fun _ h=>h))) (Nat.le_refl _) k1.cut (by rw [jI hN];exact hl) (fun k=>by simp) (fun h=>by cases h;omega) (fun h=>h) hB2
      · show _≤(sw _ _).length
        rw [jI hN];exact Nat.le_refl _
    show rangePost _ _ _ _ _ _ (.returned v) w3;refine ⟨e.code,_,hend,?_⟩;cases e with
    | normal=>exact hq
    | ret=>exact wpIn_ret hq
    | exit id=>exact wpIn_exit hq
    | goto l=>exact wpIn_goto hq
end
end
end Go.Proofs.YtcomnjodjijcmaaGreat.M
namespace Go.Proofs.YtcomnjodjijcmaaGreat.M
noncomputable section
set_option linter.unusedVariables false
set_option linter.unusedSimpArgs false
open Go.RowKit Go.Proofs.YtcomnjodjijcmaaGreatW.dz Go.Proofs.YtcomnjodjijcmaaGreatW.dX
section
variable {P:Program}
theorem mK.of {x:Code} {F F':St→Option (dQ × St)} {Y:Hd} {rl:Option Nat} (h:mK P x F Y rl) (e:∀ σ,F' σ=F σ):mK P x F' Y rl:=fun σ ex σ' hs=>h σ ex σ' (by rw [← e];exact hs)
theorem acD {Ek:Nat→Env} {A:Ann} {fF:Hd→Nat→ji} (hm:P.follows .mixedOrders=true) (hT:∀ k,lX P (Ek k).T) (hS:∀ k,nV P (Ek k)) (hG:sF P fF) (x:Code) :
    ∀ (Y:Hd) (rl:Option Nat) (k cur:Nat),mK P x (iY Ek A fF Y rl x k cur) Y rl:=by
  induction x with
  | skip =>
    intro Y rl k cur σ e σ' hs ro fr s g W a n Q hY hr hD hsz hR hQ;cases hs;exact wpIn_skip (hQ g W a hR (Evo.refl _ _ _ _) (Nat.le_refl _) hD)
  | label l =>
    intro Y rl k cur σ e σ' hs ro fr s g W a n Q hY hr hD hsz hR hQ;cases hs;exact wpIn_label (hQ g W a hR (Evo.refl _ _ _ _) (Nat.le_refl _) hD)
  | exit id =>
    intro Y rl k cur σ e σ' hs ro fr s g W a n Q hY hr hD hsz hR hQ;cases hs;exact wpIn_exit (hQ g W a hR (Evo.refl _ _ _ _) (Nat.le_refl _) hD)
  | ret =>
    intro Y rl k cur σ e σ' hs ro fr s g W a n Q hY hr hD hsz hR hQ;cases hs;exact wpIn_ret (hQ g W a hR (Evo.refl _ _ _ _) (Nat.le_refl _) hD)
  | goto l =>
    intro Y rl k cur σ e σ' hs ro fr s g W a n Q hY hr hD hsz hR hQ;cases hs;exact wpIn_goto (hQ g W a hR (Evo.refl _ _ _ _) (Nat.le_refl _) hD)
  | refuse w =>
    intro Y rl k cur σ e σ' hs;cases hs
  | region id ops draw =>
    intro Y rl k cur σ e σ' hs ro fr s g W a n Q hY hr hD hsz hR hQ;obtain ⟨σ1,h1,hs⟩:=Option.bind_eq_some_iff.mp hs;obtain ⟨σ2,h2,hs⟩:=Option.bind_eq_some_iff.mp hs;obtain ⟨σf,h3,h4⟩:=Option.map_eq_some_iff.mp hs;cases h4;have hR':Rel fr g W ⟨kill (A.rk id) σ.tm,σ.bx⟩ a.tmps:=⟨hR.wf,hR.fr.kill,hR.bx,hR.top⟩;obtain ⟨g1,k1,k2,k3⟩:=aaL hR' h1;refine ad9 (σ:=σ1) (hT k) (hS k) hm (hG Y k σ1.bx.length g1 W fr (hY.evo k2 k3)) (Evo.refl _ _ _ _) (Nat.le_refl _) k1 h2 (fun g' W' a' q1 q2 q3 q4 => ?_);obtain ⟨g2,p1,p2,p3⟩:=aaL q1 h3;have hE:=(k2.trans q2 k3).trans p2 (Nat.le_trans k3 q3);exact hQ g2 W' a' p1 hE (Nat.le_trans k3 (Nat.le_trans q3 p3)) (by rw [q4];exact hD.evo hE)
  | seq x y ihx ihy =>
    intro Y rl k cur σ e σ' hs ro fr s g W a n Q hY hr hD hsz hR hQ;obtain ⟨⟨e1,σ1⟩,h1,h2⟩:=Option.bind_eq_some_iff.mp hs;refine wpIn_seq (ihx Y rl k cur σ e1 σ1 h1 ro fr s g W a n _ hY hr hD hsz hR (fun g1 W1 a1 aa hE1 hl1 hD1 => ?_));cases e1 with
    | normal =>
      obtain ⟨⟨e2,σ2⟩,h3,h4⟩:=Option.map_eq_some_iff.mp h2;cases h4;exact ihy Y rl k cur ⟨kill (A.lk (jn y)) σ1.tm,σ1.bx⟩ e2 σ2 h3 ro fr s g1 W1 a1 n Q (hY.evo hE1 hl1) (hr.evo hE1 hl1) hD1 (Nat.le_trans hsz hE1.size) ⟨aa.wf,aa.fr.kill,aa.bx,aa.top⟩ (fun g2 W2 a2 hR2 hE2 hl2 hD2=>hQ g2 W2 a2 ⟨hR2.wf,hR2.fr.kill,hR2.bx,hR2.top⟩ (hE1.trans hE2 hl1) (Nat.le_trans hl1 hl2) hD2)
    | exit id=>cases h2;exact hQ g1 W1 a1 aa hE1 hl1 hD1
    | ret=>cases h2;exact hQ g1 W1 a1 aa hE1 hl1 hD1
    | goto l=>cases h2;exact hQ g1 W1 a1 aa hE1 hl1 hD1
  | cond c x y ihx ihy =>
    intro Y rl k cur σ e σ' hs ro fr s g W a n Q hY hr hD hsz hR hQ;simp only [iY] at hs;split at hs
    case h_2=>cases hs
    rename_i b hop
    have hv:a.eval c=.bool b:=(fQ hR hop fr 0).1;refine wpIn_cond hv ?_;cases b with
    | true=>exact ihx Y rl k cur σ e σ' hs ro fr s g W a n Q hY hr hD hsz hR hQ
    | false=>exact ihy Y rl k cur σ e σ' hs ro fr s g W a n Q hY hr hD hsz hR hQ
  | block id x ih =>
    intro Y rl k cur σ e σ' hs ro fr s g W a n Q hY hr hD hsz hR hQ;obtain ⟨⟨e1,σ1⟩,h1,h2⟩:=Option.map_eq_some_iff.mp hs;refine wpIn_block (ih Y rl k id σ e1 σ1 h1 ro fr s g W a n _ hY hr hD hsz hR (fun g1 W1 a1 aa hE1 hl1 hD1 => ?_));simp only at h2;cases e1 with
    | normal=>cases h2;exact hQ g1 W1 a1 aa hE1 hl1 hD1
    | exit id' =>
      by_cases e:id'=id
      · subst e
        rw [if_pos rfl] at h2;cases h2;simp only [dQ.rF,Exit.inBlock,if_true];exact hQ g1 W1 a1 aa hE1 hl1 hD1
      · rw [if_neg (fun h=>e (by cases h;rfl))] at h2
        cases h2
        simp only [dQ.rF,Exit.inBlock,if_neg e];exact hQ g1 W1 a1 aa hE1 hl1 hD1
    | ret=>cases h2;exact hQ g1 W1 a1 aa hE1 hl1 hD1
    | goto l=>cases h2;exact hQ g1 W1 a1 aa hE1 hl1 hD1
  | loop x ih =>
    intro Y rl k cur σ e σ' hs ro fr s g W a n Q hY hr hD hsz hR hQ;refine wpIn_loop_rounds k (aaM (fun k=>ih Y rl k cur) hQ k ⟨kill (A.lk cur) σ.tm,σ.bx⟩ g W a hs rfl hY hr hD hsz ⟨hR.wf,hR.fr.kill,hR.bx,hR.top⟩ (Evo.refl _ _ _ _))
  | rangeFunc f ps x y ihx ihy=>exact fun Y rl k cur=>acC hG hT ihx ihy Y rl k cur
  | scope x ih =>
    intro Y rl k cur σ e σ' hs ro fr s g W a n Q hY hr hD hsz hR hQ;obtain ⟨⟨e1,σ1⟩,h1,h2⟩:=Option.bind_eq_some_iff.mp hs;refine mQ (ih Y rl k cur σ e1 σ1 h1 ro fr s g W a n _ hY hr hD hsz hR (fun g1 W1 a1 aa hE1 hl1 hD1 => ?_));cases e1 with
    | normal=>cases h2;exact hQ g1 W1 a1 aa hE1 hl1 hD1
    | exit id=>cases h2;exact hQ g1 W1 a1 aa hE1 hl1 hD1
    | ret=>cases h2;exact hQ g1 W1 a1 aa hE1 hl1 hD1
    | goto l=>cases h2
end
end
end Go.Proofs.YtcomnjodjijcmaaGreat.M
namespace Go.Proofs.YtcomnjodjijcmaaGreat.M
noncomputable section
set_option linter.unusedVariables false
set_option linter.unusedSimpArgs false
open Go.RowKit Go.Proofs.YtcomnjodjijcmaaGreatW.dz Go.Proofs.YtcomnjodjijcmaaGreatW.dX
section
variable {P:Program} {T:Tb} {nb:Nat} {g g0:Gh} {W W0:World} {fr:Nat} {σ:St} {a:Act} {D:Nat} {ob:Obj}
theorem jJ {ds:Option (List Deferred)} (hD:W.heap[D]? = some (.deferred ds)) {x:Addr} {v:Value} (h:W.cell? x=some v):(W.putObj D ob).cell? x=some v:=by
  have hs:=pK h;obtain ⟨b,o,s⟩:=x;cases hs;have hne:b≠D:=fun e=>by
    subst e;unfold World.cell? at h;simp only [hD] at h;cases h
  rw [ql hne];exact h
theorem CR.zy {ds:Option (List Deferred)} (hD:W.heap[D]? = some (.deferred ds)) (ho:g.ow D=none) {ℓ:Loc}:{c:Cell}→{u:Value}→CR nb g W ℓ c u→CR nb g (W.putObj D ob) ℓ c u
  | .v _,_,h=>h
  | .sl t _,_,h=>h.mono (t.jr fun a v h=>⟨jJ hD h.1,h.2⟩) fun a v h=>⟨jJ hD h.1,h.2⟩
  | .ow e t xs,u,⟨h1,⟨cs,h2⟩,h3⟩=>by
    refine ⟨h1.mono (t.jr fun a v h=>⟨jJ hD h.1,h.2⟩) fun a v h=>⟨jJ hD h.1,h.2⟩,⟨cs,h2.1,?_⟩,h3⟩;rcases h2.2 with h2 | ⟨b,cap,cur,rfl,h4,h5,h6⟩
    · exact .inl h2
    · refine .inr ⟨b,cap,cur,rfl,h4,?_,h6⟩
      rw [iO (fun e=>by
        have:=(h3 b rfl).1;rw [e,ho] at this;cases this)]
      exact h5
  | .mu e t xs,u,⟨h1,⟨cs,h2⟩,h3⟩=>by
    refine ⟨h1.mono (t.jr fun a v h=>⟨jJ hD h.1,h.2⟩) fun a v h=>jJ hD h,⟨cs,h2.1,?_⟩,h3⟩;rcases h2.2 with h2 | ⟨b,cap,cur,rfl,h4,h5,h6⟩
    · exact .inl h2
    · refine .inr ⟨b,cap,cur,rfl,h4,?_,h6⟩
      rw [iO (fun e=>by
        have:=(h3 b rfl).1;rw [e,ho] at this;cases this)]
      exact h5
  | .ar _ _ _,_,h=>h
  | .ae _ _ _ _,_,h=>h
  | .mh _,_,h=>h
  | .bp _ _,_,h=>h
  | .ep t x off,_,⟨b,o,vs,e,r,c⟩=>⟨b,o,vs,e,t.jr (fun a v h=>⟨jJ hD h.1,h.2⟩) _ _ r,fun j v hv=>⟨jJ hD (c j v hv).1,(c j v hv).2⟩⟩
  | .fn _ _,_,h=>h
  | .yl _,_,h=>h
  | .ud,_,h=>h
  | .no,_,_=>trivial
theorem PtR.zy {ds:Option (List Deferred)} (hD:W.heap[D]? = some (.deferred ds)) (ho:g.ow D=none) {loc:Nat→Loc}:{p:Pt}→{u:Value}→PtR nb g W loc p u→PtR nb g (W.putObj D ob) loc p u
  | .one _,_,h=>CR.zy hD ho h
  | .agg _,_,⟨vs,e,l,r⟩=>⟨vs,e,l,fun k c v hc hv=>CR.zy hD ho (r k c v hc hv)⟩
theorem AVR.zy {ds:Option (List Deferred)} (hD:W.heap[D]? = some (.deferred ds)) (ho:g.ow D=none) {i:Nat}:{x:AV}→{u:Value}→AVR nb g W fr i x u→AVR nb g (W.putObj D ob) fr i x u
  | .pt _,_,h=>PtR.zy hD ho h
  | .tup _,_,⟨vs,e,l,r⟩=>⟨vs,e,l,fun j p v hp hv=>PtR.zy hD ho (r j p v hp hv)⟩
theorem Rel.zy {ds:Option (List Deferred)} (hD:W.heap[D]? = some (.deferred ds)) (ho:g.ow D=none) {t:Array Value} (h:Rel fr g W σ t):Rel fr g (W.putObj D ob) σ t:=by
  have hne:∀ {b ℓ},g.ow b=some ℓ→b≠D:=fun {b ℓ} h e=>by rw [e,ho] at h;cases h
  refine ⟨⟨fun b o' hp=>by rw [World.putObj_size];exact h.wf.pr b o' hp,fun b ℓ hb=>by rw [World.putObj_size];exact h.wf.ow b ℓ hb⟩,⟨h.fr.1,fun i x v hx hv=>(h.fr.2 i x v hx hv).zy hD ho⟩,fun l B hB => ?_,h.top⟩;have hb:=h.bx l B hB;cases B with
  | box t cs =>
    obtain ⟨h0,h1,h2,vs,h3,h4,h5⟩:=hb;exact ⟨h0,h1,h2,vs,by rw [iO (hne h1)];exact h3,⟨h4.1,fun k c v hc hv=>CR.zy hD ho (h4.2 k c v hc hv)⟩,h5⟩
  | lp e =>
    obtain ⟨h0,h1,h2,h3⟩:=hb;exact ⟨h0,h1,h2,by rw [iO (hne h1)];exact h3⟩
  | lpb =>
    obtain ⟨h0,h1,h2,h3⟩:=hb;exact ⟨h0,h1,h2,by rw [iO (hne h1)];exact h3⟩
  | arr e t xs=>exact ⟨hb.1,CR.zy (nb:=σ.bx.length) hD ho (c:=.mu e t xs) (ℓ:=.bx l) hb.2⟩
  | mi xs =>
    obtain ⟨h0,h1,h2,es,ck,h3,h4⟩:=hb;exact ⟨h0,h1,h2,es,ck,by rw [iO (hne h1)];exact h3,h4⟩
  | gone=>exact hb
  | no=>exact hb
theorem Evo.zy {A:Loc→Prop} {ds:Option (List Deferred)} (hD:W.heap[D]? = some (.deferred ds)) (hs:W0.heap.size≤D) (h:Evo A nb g0 W0 g W):Evo A nb g0 W0 g (W.putObj D ob) :=
  ⟨h.os,h.tape,h.output,by rw [World.putObj_size];exact h.size,fun b o hp=>⟨(h.keep b o hp).1,fun v hv=>jJ hD ((h.keep b o hp).2 v hv)⟩,
    fun b hb ho=>⟨(iO (by omega)).trans (h.far b hb ho).1,(h.far b hb ho).2⟩,h.bx⟩
theorem uX {fn:Func} {R:Ending→World→Prop} {t:Array Value} {A:Loc→Prop} (hR:∀ W',Rel fr g W' σ t→Evo A nb g0 W0 g W'→∃ v,(results fn t).run P W'=.ok v W'∧R (.returned v) W') :
    ∀ (Ds:List Nat) (W:World),Ds.Nodup→(∀ D∈Ds,W0.heap.size≤D∧W.heap[D]? = some (.deferred (some []))∧g.ow D=none)→Rel fr g W σ t→Evo A nb g0 W0 g W→LeavesInM Fence.wide 0 P fn t R (Ds.map fun D=>{ target:=.collected D,args:=#[] }) .returning W
  | [],W,_,_,h,hE=>hR W h hE
  | D :: Ds,W,nd,hd,h,hE=>by
    obtain ⟨d1,d2,d3⟩:=hd D List.mem_cons_self;obtain ⟨n1,n2⟩:=List.nodup_cons.1 nd;refine ⟨by simp,.inl ⟨D,_,rfl,run_takeDeferred d2,?_⟩⟩;refine uX hR Ds _ n2 (fun D' hD' => ?_) (h.zy d2 d3) (hE.zy d2 d1);obtain ⟨e1,e2,e3⟩:=hd D' (List.mem_cons_of_mem _ hD');exact ⟨e1,by rw [iO (fun e:D'=D=>n1 (by rw [← e];exact hD'))];exact e2,e3⟩
def uY (T:Tb):List ResultVar→St→Option (List Pt × St)
  | [],σ=>some ([],σ)
  | .tmp t :: rs,σ=>match σ.tm[t]? with
    | some (.pt p)=>(uY T rs ⟨σ.tm.set t (.pt p.un),σ.bx⟩).map fun q=>(p :: q.1,q.2)
    | _=>none
  | .cell t ty :: rs,σ=>match (σ.tm[t]?).map AV.un,T.sh ty with
    | some (.pt (.one (.bp l off))),some s=>(match σ.bx[l]? with
      | some (.box t' cs)=>(match rZ cs off s with
        | some p=>(uY T rs ⟨σ.tm,σ.bx.set l (.box t' (splice cs off (p.cells.map Cell.un)))⟩).map fun q=>(p :: q.1,q.2)
        | none=>none)
      | _=>none)
    | _,_=>none
def mD:List Pt→AV
  | [p]=>.pt p
  | ps=>.tup ps
def rG (tmps:Array Value):ResultVar→Sem Value
  | .tmp t=>pure (tmps.getD t undef)
  | .cell x t=>do loadVar t (← asAddr (tmps.getD x undef))
def fT (fr t j:Nat):Loc→Loc
  | .tm f i j' k=>if f=fr∧i=t∧j'=0 then .rs j k else .tm f i j' k
  | ℓ=>ℓ
def fV (l off n j:Nat):Loc→Loc
  | .bc l' k=>if l'=l∧off≤k∧k<off+n then .rs j (k - off) else .bc l' k
  | ℓ=>ℓ
theorem ae5 (h:Rel fr g W σ a.tmps) {t j:Nat} {p:Pt} (hp:σ.tm[t]? = some (.pt p)):PtR σ.bx.length (g.ren (fT fr t j)) W (fun k=>.rs j k) p (a.eval (.tmp t))∧Rel fr (g.ren (fT fr t j)) W ⟨σ.tm.set t (.pt p.un),σ.bx⟩ a.tmps∧Evo (Loc.below fr) σ.bx.length g W (g.ren (fT fr t j)) W:=by
  refine ⟨PtR.ren (f:=fT fr t j) (loc:=.tm fr t 0) (loc':=fun k=>.rs j k) (fun k=>show (if fr=fr∧t=t∧0=0 then Loc.rs j k else Loc.tm fr t 0 k)=_ from if_pos ⟨rfl,rfl,rfl⟩) (show PtR σ.bx.length g W (.tm fr t 0) p _ from h.tmp hp),⟨h.wf.ren,⟨by simp only [List.length_set];exact h.fr.1,fun i y u hy hu => ?_⟩,h.bx.ren (fun _ _=>rfl) (fun _=>rfl),h.top⟩,Evo.ren (fun ℓ hb => ?_)⟩
  · simp only [List.getElem?_set] at hy
    by_cases e:t=i
    · subst e
      rw [if_pos rfl] at hy;split at hy
      · cases hy
        exact AVR.ny (x:=.pt p) (h.fr.2 t _ u hp hu)
      · cases hy
    · rw [if_neg e] at hy
      exact (h.fr.2 i y u hy hu).ren (fun j' k=>by
        show (if fr=fr∧i=t∧j'=0 then Loc.rs j k else Loc.tm fr i j' k)=_;exact if_neg (fun e'=>e e'.2.1.symm))
  · cases ℓ with
    | tm f i j' k =>
      have hb:f<fr:=hb;show (if f=fr∧i=t∧j'=0 then _ else _)=_;rw [if_neg (by omega)]
    | _=>exact hb.elim
theorem agc (hT:lX P T) (h:Rel fr g W σ a.tmps) {x l off j:Nat} {ty t':TypeId} {s:Bool × Nat} {cs:List Cell} {p:Pt} (hx:(σ.tm[x]?).map AV.un=some (.pt (.one (.bp l off)))) (hsh:T.sh ty=some s) (hb:σ.bx[l]? = some (.box t' cs)) (hp:rZ cs off s=some p) :
    ∃ v,(rG a.tmps (.cell x ty)).run P W=.ok v W∧PtR σ.bx.length (g.ren (fV l off p.cells.length j)) W (fun k=>.rs j k) p v∧Rel fr (g.ren (fV l off p.cells.length j)) W ⟨σ.tm,σ.bx.set l (.box t' (splice cs off (p.cells.map Cell.un)))⟩ a.tmps∧Evo (Loc.below fr) σ.bx.length g W (g.ren (fV l off p.cells.length j)) W:=by
  obtain ⟨⟨hl,hlv⟩,ex⟩:(l<σ.bx.length∧g.lv l)∧a.eval (.tmp x)=.pointer (some ⟨g.bx l,off,none⟩):=fQ (T:=T) (ty:=0) (x:=.tmp x) h hx 0 0;obtain ⟨b0,b1,b2,vs,b3,b4,b5⟩:=h.bx l _ hb;obtain ⟨v,h1,h2,h3,h4,h5⟩:=xB b4 hp;have hrun:(Instr.loadAt ty (.pointer (some ⟨g.bx l,off,none⟩))).run P W=.ok v W:=by
    obtain ⟨ag,n⟩:=s;cases ag
    · exact jA hT hsh (jO b3 off v (h1 rfl))
    · obtain ⟨hle,rfl⟩:=h2 rfl
      refine jB hT hsh (by rw [List.length_take,List.length_drop];simp only at hle;omega) (fun j v hv => ?_);rw [List.getElem?_take] at hv;split at hv
      · rw [List.getElem?_drop] at hv
        exact jO b3 _ v hv
      · cases hv
  refine ⟨v,?_,PtR.ren' (fun k hk => ?_) h3,⟨h.wf.ren,?_,?_,?_⟩,Evo.ren (fun ℓ hb=>by cases ℓ <;> first | rfl | exact hb.elim)⟩
  · have ex':a.tmps.getD x undef=.pointer (some ⟨g.bx l,off,none⟩):=ex
    simp only [Instr.loadAt,Instr.sureAddr,Sem.run_bind,Sem.run_pure,Result.andThen_ok] at hrun;simp only [rG,ex',asAddr,Sem.run_bind,Sem.run_pure,Result.andThen_ok,hrun]
  · show (if l=l∧off≤off+k∧off+k<off+p.cells.length then Loc.rs j (off+k - off) else .bc l (off+k))=_
    rw [if_pos ⟨rfl,by omega,by omega⟩,Nat.add_sub_cancel_left]
  · show FrR (σ.bx.set l _).length _ _ _ _ _
    rw [List.length_set];exact ⟨h.fr.1,fun i z u hz hu=>(h.fr.2 i z u hz hu).ren (fun _ _=>rfl)⟩
  · intro l' B hB
    show BxR (σ.bx.set l _).length _ _ _ _;rw [List.length_set];simp only [List.getElem?_set] at hB;have hlen:(p.cells.map Cell.un).length=p.cells.length:=by simp
    by_cases e:l=l'
    · subst e
      rw [if_pos rfl,if_pos hl] at hB;cases hB;refine ⟨b0,by show (g.ow (g.bx l)).map _=_;rw [b1];rfl,b2,vs,b3,⟨by rw [jG (by rw [hlen];exact h4)];exact b4.1,fun k c u hc hu => ?_⟩,b5⟩;rw [jN (by rw [hlen];exact h4),hlen] at hc;split at hc
      · rename_i hk
        rw [List.getElem?_map] at hc;obtain ⟨c0,hc0,rfl⟩:=Option.map_eq_some_iff.mp hc;rw [h5 (k - off) (by omega),show off+(k - off)=k by omega] at hc0;exact CR.free (Cell.lW c0) (CR.un (ℓ':=.bc l k) (b4.2 k c0 u hc0 hu))
      · rename_i hk
        have:=(b4.2 k c u hc hu).ren (f:=fV l off p.cells.length j);have e2:fV l off p.cells.length j (.bc l k)=.bc l k:=if_neg (fun e=>hk ⟨e.2.1,e.2.2⟩);rw [e2] at this;exact this
    · rw [if_neg e] at hB
      have hb':=h.bx l' B hB;cases B with
      | box t2 cs2 =>
        obtain ⟨q0,q1,q2,us,q3,q4,q5⟩:=hb';exact ⟨q0,by show (g.ow (g.bx l')).map _=_;rw [q1];rfl,q2,us,q3,q4.ren (loc:=.bc l') (fun k _=>by
          show (if l'=l∧off≤k∧k<off+p.cells.length then _ else _)=_;exact if_neg (fun e'=>e e'.1.symm)),q5⟩
      | lp ex' =>
        obtain ⟨q0,q1,q2,q3⟩:=hb';exact ⟨q0,by show (g.ow (g.bx l')).map _=_;rw [q1];rfl,q2,q3⟩
      | lpb =>
        obtain ⟨q0,q1,q2,q3⟩:=hb';exact ⟨q0,by show (g.ow (g.bx l')).map _=_;rw [q1];rfl,q2,q3⟩
      | arr e t xs =>
        obtain ⟨q0,q1⟩:=hb';exact ⟨q0,CR.ren (f:=fV l off p.cells.length j) (show CR σ.bx.length g W (.bx l') (.mu e t xs) (g.av l') from q1)⟩
      | mi xs =>
        obtain ⟨q0,q1,q2⟩:=hb';exact ⟨q0,by show (g.ow (g.bx l')).map _=_;rw [q1];rfl,q2⟩
      | gone=>exact hb'
      | no=>exact hb'
  · intro l' hl' hv
    exact h.top l' (by simpa using hl') hv
theorem wz (hT:lX P T):∀ {rs:List ResultVar} {g:Gh} {σ σ':St} {ps:List Pt} (j0:Nat),Rel fr g W σ a.tmps→uY T rs σ=some (ps,σ') →
    ∃ (vs:List Value) (g':Gh),(rs.mapM (rG a.tmps)).run P W=.ok vs W∧ps.length=vs.length∧Rel fr g' W σ' a.tmps∧Evo (Loc.below fr) σ.bx.length g W g' W∧σ'.bx.length=σ.bx.length∧(∀ (j:Nat) (p:Pt) (v:Value),ps[j]? = some p→vs[j]? = some v→PtR σ.bx.length g' W (fun k=>.rs (j0+j) k) p v) ∧
      ∀ (j:Nat) (p:Pt) (v:Value),j<j0→PtR σ.bx.length g W (fun k=>.rs j k) p v→PtR σ.bx.length g' W (fun k=>.rs j k) p v
  | [],g,σ,σ',ps,j0,h,hs=>by
    cases hs
    exact ⟨[],g,by simp,rfl,h,Evo.refl _ _ _ _,rfl,fun j p v hp=>by simp at hp,fun _ _ _ _ h=>h⟩
  | .tmp t :: rs,g,σ,σ',ps,j0,h,hs=>by
    simp only [uY] at hs;split at hs
    case h_2=>cases hs
    rename_i p hp
    obtain ⟨⟨ps',σ1⟩,hq,he⟩:=Option.map_eq_some_iff.mp hs;cases he;obtain ⟨k1,k2,k3⟩:=ae5 (j:=j0) h hp;obtain ⟨vs,g',q1,q2,q3,q4,q5,q6,q7⟩:=wz hT (j0+1) k2 hq;refine ⟨a.eval (.tmp t) :: vs,g',?_,by simp [q2],q3,k3.trans q4 (Nat.le_refl _),q5,fun j p' v' hj hv => ?_,fun j p' v' hj hr => ?_⟩
    · have:(rG a.tmps (.tmp t)).run P W=.ok (a.eval (.tmp t)) W:=by simp [rG,Act.eval]
      simp only [List.mapM_cons,Sem.run_bind,this,Result.andThen_ok,q1,Sem.run_pure]
    · cases j with
      | zero=>simp at hj hv;subst hj;subst hv;exact q7 j0 _ _ (Nat.lt_succ_self _) k1
      | succ j =>
        have:=q6 j p' v' (by simpa using hj) (by simpa using hv);rwa [Nat.add_assoc,Nat.add_comm 1 j] at this
    · exact q7 j p' v' (by omega) (PtR.ren (fun k=>rfl) hr)
  | .cell x ty :: rs,g,σ,σ',ps,j0,h,hs=>by
    simp only [uY] at hs;split at hs
    case h_2=>cases hs
    rename_i l off s hx hsh
    split at hs
    case h_2=>cases hs
    rename_i t' cs hb
    split at hs
    case h_2=>cases hs
    rename_i p hp
    obtain ⟨⟨ps',σ1⟩,hq,he⟩:=Option.map_eq_some_iff.mp hs;cases he;obtain ⟨v,k0,k1,k2,k3⟩:=agc (j:=j0) hT h hx hsh hb hp;obtain ⟨vs,g',q1,q2,q3,q4,q5,q6,q7⟩:=wz hT (j0+1) k2 hq;simp only [List.length_set] at q4 q5 q6 q7;refine ⟨v :: vs,g',?_,by simp [q2],q3,k3.trans q4 (Nat.le_refl _),q5,fun j p' v' hj hv => ?_,fun j p' v' hj hr => ?_⟩
    · simp only [List.mapM_cons,Sem.run_bind,k0,Result.andThen_ok,q1,Sem.run_pure]
    · cases j with
      | zero=>simp at hj hv;subst hj;subst hv;exact q7 j0 _ _ (Nat.lt_succ_self _) k1
      | succ j =>
        have:=q6 j p' v' (by simpa using hj) (by simpa using hv);rwa [Nat.add_assoc,Nat.add_comm 1 j] at this
    · exact q7 j p' v' (by omega) (PtR.ren (fun k=>rfl) hr)
def fR (fr d:Nat):Loc→Loc
  | .rs j k=>.tm fr d j k
  | ℓ=>ℓ
theorem acE {d:Nat}:∀ ℓ:Loc,ℓ.below (fr+1)→fR fr d ℓ=ℓ
  | .tm f i j k,h=>rfl
  | .bc _ _,_=>rfl
  | .bx _,_=>rfl
  | .rs _ _,h=>h.elim
end
end
end Go.Proofs.YtcomnjodjijcmaaGreat.M

/- Lemmas for laws of chapter 7: what the functions that they reach compute. No condition of its own. -/
import Derived.Test.YtcomnjodjijcmaaGreatYE5
import Derived.RangeFuncIn
import Derived.OrdersIn
namespace Go.Proofs.YtcomnjodjijcmaaGreat.M
noncomputable section
set_option linter.unusedVariables false
set_option linter.unusedSimpArgs false
open Go.RowKit Go.Proofs.YtcomnjodjijcmaaGreatW.dz Go.Proofs.YtcomnjodjijcmaaGreatW.dX
section
variable {E:Env} {mv:Nat→Bool} {call:ji} {l:Nat} {σ σ':St} {o:Oper}
theorem Pt.qI (p:Pt):p.un.un=p.un:=by
  cases p with
  | one c=>exact congrArg Pt.one (M.qI c)
  | agg cs=>simp only [Pt.un,List.map_map];congr 1;exact List.map_congr_left fun c _=>M.qI c
theorem AV.qI (x:AV):x.un.un=x.un:=by
  cases x with
  | pt p=>exact congrArg AV.pt p.qI
  | tup ps=>simp only [AV.un,List.map_map];congr 1;exact List.map_congr_left fun p _=>p.qI
theorem lM {tm:List AV} {d:Option Nat} {x:AV} {t:Nat} (h:d≠some t):(put tm d x)[t]? = tm[t]? := by
  cases d with
  | none=>rfl
  | some d=>exact jF (fun e=>h (by rw [e]))
theorem aaE {tm:List AV} {s t:Nat} {x y:AV} (hs:tm[s]? = some x) (hy:y.un=x.un):((tm.set s y)[t]?).map AV.un=(tm[t]?).map AV.un:=by
  by_cases e:s=t
  · subst e
    rw [List.getElem?_set,if_pos rfl,if_pos (List.getElem?_eq_some_iff.1 hs).1,hs];exact congrArg some hy
  · rw [jF (Ne.symm e)]
theorem rA {T:Tb} {tm:List AV} {ty:TypeId} {x:Operand} {p:Pt} (h:pR T tm ty x=some (.pt p)) (t:Nat):((nT tm x p)[t]?).map AV.un=(tm[t]?).map AV.un:=by
  cases x with
  | tmp s=>exact aaE (x:=.pt p) h (AV.qI (.pt p))
  | const v=>rfl
  | func f=>rfl
  | global q=>rfl
theorem rC {s d t:Nat} (hs:moveA σ s d=some σ') (h:t≠d):(σ'.tm[t]?).map AV.un=(σ.tm[t]?).map AV.un:=by
  obtain ⟨x,hx,rfl⟩:=Option.map_eq_some_iff.mp hs;split
  · rfl
  · simp only
    rw [jF h];exact aaE hx (AV.qI x)
theorem zh {s i d t:Nat} (hs:moveB σ s i d=some σ') (h:t≠d):(σ'.tm[t]?).map AV.un=(σ.tm[t]?).map AV.un:=by
  unfold moveB at hs;split at hs
  case h_2=>cases hs
  rename_i ps hx
  obtain ⟨p,hp,rfl⟩:=Option.map_eq_some_iff.mp hs;simp only;rw [jF h];refine aaE hx ?_;simp only [AV.un,List.map_set,Pt.qI];congr 1;apply List.ext_getElem?;intro k;rw [List.getElem?_set];split
  · rename_i e
    subst e;rw [List.getElem?_map,hp,if_pos (by simpa using (List.getElem?_eq_some_iff.1 hp).1)];rfl
  · rfl
theorem uH {T:Tb} (hs:step T mv l σ o=some σ') {t:Nat} (h:o.dst≠some t):(σ'.tm[t]?).map AV.un=(σ.tm[t]?).map AV.un:=by
  have hq:quiet T σ o=some σ'→(σ'.tm[t]?).map AV.un=(σ.tm[t]?).map AV.un:=fun hq=>by
    obtain ⟨x,_,rfl⟩:=Option.map_eq_some_iff.mp hq;simp only;rw [lM h]
  have hX:lD T l σ o=some σ'→(σ'.tm[t]?).map AV.un=(σ.tm[t]?).map AV.un:=fun hs=>by
    unfold lD at hs;split at hs
    · rename_i d ho hd
      have hne:t≠d:=fun e=>h (by rw [hd,e]);unfold mkS at hs;split at hs
      case h_2=>cases hs
      split at hs
      case h_2=>cases hs
      split at hs
      case isFalse=>cases hs
      split at hs
      case isFalse=>cases hs
      split at hs
      case isFalse=>cases hs
      cases hs
      simp only;rw [jF hne]
    · rename_i d ho hd
      have hne:t≠d:=fun e=>h (by rw [hd,e]);unfold ado at hs;split at hs
      case h_2=>cases hs
      cases hs
      simp only;rw [jF hne]
    · unfold afd at hs
      split at hs
      case h_2=>cases hs
      split at hs
      case h_2=>cases hs
      cases hs
      rfl
    · unfold yV at hs
      split at hs
      case h_2=>cases hs
      split at hs
      case h_2=>cases hs
      split at hs
      case h_2=>cases hs
      split at hs
      case isFalse=>cases hs
      split at hs
      case isFalse=>cases hs
      cases hs
      simp only;rw [lM h]
    · cases hs
  unfold step at hs;split at hs <;> (try rename_i hd;have hne:t≠_:=fun e=>h (by rw [hd,e]))
  · exact rC hs hne
  · split at hs
    · exact rC hs hne
    · exact hq hs
  · split at hs
    · split at hs
      · cases hs
      · exact zh hs hne
    · exact hq hs
  · split at hs
    · unfold uq at hs
      split at hs
      · split at hs
        · obtain ⟨p,_,rfl⟩:=Option.map_eq_some_iff.mp hs
          simp only;rw [jF hne]
        · cases hs
      · cases hs
    · exact hq hs
  · unfold qY at hs
    split at hs
    · unfold pX at hs
      split at hs
      · split at hs
        · split at hs
          · split at hs
            · obtain ⟨z,_,rfl⟩:=Option.map_eq_some_iff.mp hs
              rfl
            · cases hs
          · cases hs
        · cases hs
      · cases hs
    unfold pU at hs;split at hs
    · rename_i hsrc
      split at hs
      · split at hs
        · cases hs
          exact rA hsrc t
        · cases hs
      · cases hs
    · cases hs
  · unfold nA at hs
    split at hs
    · cases hs
      simp only;rw [jF hne]
    · cases hs
  · unfold abW at hs
    split at hs
    · split at hs
      · cases hs
        simp only;rw [jF hne]
      · cases hs
    · cases hs
  · unfold qX at hs
    split at hs
    · split at hs
      · obtain ⟨xs,_,rfl⟩:=Option.map_eq_some_iff.mp hs
        simp only;rw [jF hne]
      · cases hs
    · cases hs
  · split at hs
    · unfold ko at hs
      split at hs
      · split at hs
        · obtain ⟨r,hr,rfl⟩:=Option.map_eq_some_iff.mp hs
          simp only;rw [jF hne];unfold af0 at hr;split at hr
          · rename_i hsrc0 _
            split at hr
            · split at hr
              · split at hr
                · cases hr
                  obtain ⟨x0,hsrc,hx0⟩:=Option.bind_eq_some_iff.mp hsrc0;obtain rfl:=xD hx0;exact rA hsrc t
                · cases hr
              · cases hr
            · cases hr
          · cases hr
        · cases hs
      · cases hs
    · split at hs
      · exact hX hs
      · exact hq hs
  · split at hs
    · exact hX hs
    · exact hq hs
  · exact hX hs
  · exact hX hs
  · exact hX hs
  · exact hq hs
theorem aaF (hs:exec E mv call l σ o=some σ') {t:Nat} (h:o.dst≠some t):(σ'.tm[t]?).map AV.un=(σ.tm[t]?).map AV.un:=by
  have hv:∀ {c f},kX E call σ c o.dst f=some σ'→(σ'.tm[t]?).map AV.un=(σ.tm[t]?).map AV.un:=fun {c f} hv=>by
    obtain ⟨ys,_,h2⟩:=Option.bind_eq_some_iff.mp hv;obtain ⟨r,_,rfl⟩:=Option.map_eq_some_iff.mp h2;simp only;rw [lM h]
  unfold exec at hs;split at hs
  · split at hs
    · split at hs
      · obtain ⟨r,_,rfl⟩:=Option.map_eq_some_iff.mp hs
        simp only;rw [lM h]
      · split at hs
        · obtain ⟨ys,_,hs⟩:=Option.bind_eq_some_iff.mp hs
          obtain ⟨r,_,hs⟩:=Option.bind_eq_some_iff.mp hs;split at hs
          · cases hs
            simp only;rw [lM h]
          · cases hs
        · exact hv hs
    · split at hs
      · obtain ⟨f,_,h2⟩:=Option.bind_eq_some_iff.mp hs
        obtain ⟨s,_,h2⟩:=Option.bind_eq_some_iff.mp h2;obtain ⟨r,_,rfl⟩:=Option.map_eq_some_iff.mp h2;simp only;rw [lM h]
      obtain ⟨f,_,h2⟩:=Option.bind_eq_some_iff.mp hs;unfold ku at h2;split at h2
      · obtain ⟨r,_,rfl⟩:=Option.map_eq_some_iff.mp h2
        simp only;rw [lM h]
      · exact hv h2
    · cases hs
    · exact uH hs h
  · exact uH hs h
def uI (E:Env) (o:Oper):Bool:=match o.op with
  | .store _ _ _=>false
  | .mapUpdate _ _ _ _=>false
  | .call c=>match c.callee with
    | .value (.func f)=>(E.sum f).isSome || E.nw f
    | .value _=>false
    | .builtin .copy=>false
    | _=>true
  | _=>true
theorem wo {cs:List Cell} {off:Nat} {s:Bool × Nat} {p:Pt} (hp:rZ cs off s=some p):off+p.cells.length≤cs.length∧∀ k,k<p.cells.length→p.cells[k]? = cs[off+k]? := by
  obtain ⟨ag,n⟩:=s;cases ag
  · simp only [rZ] at hp
    obtain ⟨c,h1,rfl⟩:=Option.map_eq_some_iff.mp hp;have hlt:=(List.getElem?_eq_some_iff.1 h1).1;refine ⟨by simp [Pt.cells];omega,fun k hk => ?_⟩;have:k=0:=by simp [Pt.cells] at hk;omega
    subst this;simp [Pt.cells,h1]
  · simp only [rZ] at hp
    split at hp
    · rename_i hle
      cases hp
      refine ⟨by simp [Pt.cells];omega,fun k hk => ?_⟩;simp only [Pt.cells,List.length_take] at hk ⊢;rw [List.getElem?_take,if_pos (by omega),List.getElem?_drop]
    · cases hp
def qL (bx bx':List Bx):Prop:=∀ (l:Nat),bx'[l]? = bx[l]? ∨ (∀ B,bx[l]? = some B→B=.no)∨∃ t cs cs',bx[l]? = some (.box t cs)∧bx'[l]? = some (.box t cs')∧cs'.map Cell.un=cs.map Cell.un
theorem qL.refl (bx:List Bx):qL bx bx:=fun _=>.inl rfl
theorem qL.set {bx:List Bx} {l:Nat} {B:Bx} (h:bx[l]? = some .no):qL bx (bx.set l B):=fun k=>by
  by_cases e:l=k
  · subst e;exact .inr (.inl fun B hB=>by rw [h] at hB;cases hB;rfl)
  · exact .inl (by rw [List.getElem?_set,if_neg e])
theorem uJ {T:Tb} (hs:step T mv l σ o=some σ') (hk:∀ t p x,o.op≠.store t p x) (hk2:∀ t m k x,o.op≠.mapUpdate t m k x) (hk3:∀ c,o.op=.call c→Call.uw c=false):qL σ.bx σ'.bx:=by
  have hq:quiet T σ o=some σ'→qL σ.bx σ'.bx:=fun hq=>by
    obtain ⟨x,_,rfl⟩:=Option.map_eq_some_iff.mp hq;exact qL.refl _
  have hA:∀ {s d},moveA σ s d=some σ'→qL σ.bx σ'.bx:=fun hs=>by
    obtain ⟨x,_,rfl⟩:=Option.map_eq_some_iff.mp hs;split <;> exact qL.refl _
  have hX:lD T l σ o=some σ'→qL σ.bx σ'.bx:=fun hs=>by
    unfold lD at hs;split at hs
    · unfold mkS at hs
      split at hs
      case h_2=>cases hs
      split at hs
      case h_2=>cases hs
      split at hs
      case isFalse=>cases hs
      split at hs
      case isFalse=>cases hs
      split at hs
      case isFalse=>cases hs
      cases hs
      exact qL.refl _
    · unfold ado at hs
      split at hs
      case h_2=>cases hs
      rename_i hb
      cases hs
      exact qL.set hb
    · rename_i ho _
      exact (hk2 _ _ _ _ ho).elim
    · rename_i c ho
      have:=hk3 _ ho;unfold yV at hs;split at hs
      · rename_i hc _ _
        simp [Call.uw,hc] at this
      · cases hs
    · cases hs
  unfold step at hs;split at hs
  · exact hA hs
  · split at hs
    · exact hA hs
    · exact hq hs
  · split at hs
    · split at hs
      · cases hs
      · unfold moveB at hs
        split at hs
        · obtain ⟨p,_,rfl⟩:=Option.map_eq_some_iff.mp hs
          exact qL.refl _
        · cases hs
    · exact hq hs
  · split at hs
    · unfold uq at hs
      split at hs
      · rename_i l' off' s' _ _
        split at hs
        · rename_i t' cs hb
          obtain ⟨p,hp,rfl⟩:=Option.map_eq_some_iff.mp hs;intro k;simp only;by_cases e:l'=k
          · subst e
            refine .inr (.inr ⟨t',cs,_,hb,by rw [List.getElem?_set,if_pos rfl,if_pos (List.getElem?_eq_some_iff.1 hb).1],?_⟩);obtain ⟨q1,q2⟩:=wo hp;apply List.ext_getElem?;intro j;rw [List.getElem?_map,List.getElem?_map,jN (by simpa using q1),List.length_map];split
            · rename_i hj
              rw [List.getElem?_map,q2 _ (by omega),Option.map_map,show off'+(j - off')=j by omega];cases cs[j]? with
              | none=>rfl
              | some c=>exact congrArg some (M.qI c)
            · rfl
          · exact .inl (by rw [List.getElem?_set,if_neg e])
        · cases hs
      · cases hs
    · exact hq hs
  · rename_i ho _
    exact (hk _ _ _ ho).elim
  · unfold nA at hs
    split at hs
    · rename_i hb
      cases hs
      exact qL.set hb
    · cases hs
  · unfold abW at hs
    split at hs
    · rename_i hb
      split at hs
      · cases hs
        exact qL.set hb
      · cases hs
    · cases hs
  · unfold qX at hs
    split at hs
    · split at hs
      · obtain ⟨xs,_,rfl⟩:=Option.map_eq_some_iff.mp hs
        exact qL.refl _
      · cases hs
    · cases hs
  · split at hs
    · unfold ko at hs
      split at hs
      · split at hs
        · obtain ⟨r,hr,rfl⟩:=Option.map_eq_some_iff.mp hs
          exact qL.refl _
        · cases hs
      · cases hs
    · rename_i ho _ _
      rw [hk3 _ ho] at hs;exact hq hs
  · rename_i ho _
    rw [hk3 _ ho] at hs;exact hq hs
  · exact hX hs
  · exact hX hs
  · exact hX hs
  · exact hq hs
theorem aaG (hs:exec E mv call l σ o=some σ') (hk:uI E o=true):qL σ.bx σ'.bx:=by
  unfold exec at hs;unfold uI at hk;split at hs
  · rename_i c ho
    rw [ho] at hk;simp only at hk;split at hs
    · rename_i f hc
      rw [hc] at hk;split at hs
      · obtain ⟨r,_,rfl⟩:=Option.map_eq_some_iff.mp hs
        exact qL.refl _
      · rename_i hn
        split at hs
        · obtain ⟨ys,_,hs⟩:=Option.bind_eq_some_iff.mp hs
          obtain ⟨r,_,hs⟩:=Option.bind_eq_some_iff.mp hs;split at hs
          · cases hs
            intro l;by_cases hl:l<σ.bx.length
            · exact .inl (List.getElem?_append_left hl)
            · exact .inr (.inl fun B hB=>by rw [List.getElem?_eq_none (by omega)] at hB;cases hB)
          · cases hs
        · rename_i hw
          simp [hn,hw] at hk
    · rename_i hc
      rw [hc] at hk;cases hk
    · cases hs
    · rename_i hc1 hc2 hc3
      refine uJ hs (fun t p x e=>by rw [ho] at e;cases e) (fun t m k x e=>by rw [ho] at e;cases e) (fun c' e => ?_);rw [ho] at e;cases e;unfold Call.uw;split
      · rename_i hcc
        rw [hcc] at hk;cases hk
      · rfl
  · rename_i hno
    refine uJ hs (fun t p x e => ?_) (fun t m k x e => ?_) (fun c e=>(hno _ e).elim)
    · rw [e] at hk
      cases hk
    · rw [e] at hk
      cases hk
end
end
end Go.Proofs.YtcomnjodjijcmaaGreat.M
namespace Go.Proofs.YtcomnjodjijcmaaGreat.M
noncomputable section
set_option linter.unusedVariables false
set_option linter.unusedSimpArgs false
open Go.RowKit Go.Proofs.YtcomnjodjijcmaaGreatW.dz Go.Proofs.YtcomnjodjijcmaaGreatW.dX
def acv (ops:Array Oper) (o:Oper):Option Nat:=o.guard.bind fun g=>(ops[g.1]?).bind (·.dst)
def looks (ops:Array Oper) (o:Oper):List Nat:=mH o++(acv ops o).toList
def gate (ops:Array Oper) (tm:List AV) (o:Oper):Option Bool:=match o.guard with
  | none=>some true
  | some (_,w)=>match (acv ops o).bind fun d=>(tm[d]?).map AV.un with
    | some (.pt (.one (.v (.bool b))))=>some (b==w)
    | some (.pt (.one .ud))=>some false
    | _=>none
def skipped (σ:St) (o:Oper):St:=⟨put σ.tm o.dst (.pt (.one .ud)),σ.bx⟩
def rD (E:Env) (mv:Nat→Bool) (call:ji) (ops:Array Oper) (l:Nat) (σ:St) (o:Oper):Option St :=
  (gate ops σ.tm o).bind fun b=>if b=true then exec E mv call l σ o else some (skipped σ o)
def zi (o:Oper):Bool:=match o.op with
  | .alloc _ | .box _ _ | .makeMap _ _=>o.dst.isSome
  | _=>false
def xL (o:Oper):Bool := !uy o
def mI (ops:Array Oper) (l0 i:Nat):Nat:=l0+((ops.toList.take i).filter zi).length
def opAt (E:Env) (mv:Nat→Bool) (call:ji) (ops:Array Oper) (l0 i:Nat) (σ:St):Option St:=(ops[i]?).bind fun o=>rD E mv call ops (mI ops l0 i) σ o
def acw (E:Env) (mv:Nat→Bool) (call:ji) (ops:Array Oper) (l0:Nat):List Nat→St→Option St
  | [],σ=>some σ
  | i :: r,σ=>(opAt E mv call ops l0 i σ).bind (acw E mv call ops l0 r)
def ajk (o:Oper):Option Nat:=match o.op,o.dst,o.guard with
  | .call c,some _,none=>if Call.xH c=true then (match c.args.toList with
    | [.tmp s,_]=>some s
    | _=>none) else none
  | _,_,_=>none
def uK (E:Env) (mv:Nat→Bool) (ops:Array Oper) (a b:Oper):Bool :=
  (a.dst.all fun d => !(looks ops b).contains d&&b.dst != some d)&&(b.dst.all fun d => !(looks ops a).contains d) &&
    ((isF E mv b&&(xL b || uI E a)) || (isF E mv a&&(xL a || uI E b)) || (zi a&&zi b) || (ajk a).any (fun s => !(looks ops b).contains s) || (ajk b).any (fun s => !(looks ops a).contains s))
section
variable {E:Env} {mv:Nat→Bool} {call:ji} {ops:Array Oper} {l la lb:Nat} {σ σ':St} {o a b:Oper}
theorem uL {tm tm':List AV} (h:Like (looks ops o) tm tm'):gate ops tm o=gate ops tm' o:=by
  unfold gate;cases hg:o.guard with
  | none=>rfl
  | some jw =>
    obtain ⟨j,w⟩:=jw;simp only;have:((acv ops o).bind fun d=>(tm[d]?).map AV.un)=((acv ops o).bind fun d=>(tm'[d]?).map AV.un):=by
      cases hd:acv ops o with
      | none=>rfl
      | some d=>exact h d (List.mem_append_right _ (by rw [hd];simp))
    rw [this]
theorem Like.left {L M:List Nat} {tm tm':List AV} (h:Like (L++M) tm tm'):Like L tm tm':=fun t ht=>h t (List.mem_append_left _ ht)
theorem l6 {d:Nat} {x:AV} (h1:d ∉ looks ops o) (h2:o.dst≠some d):rD E mv call ops l (σ.at d x) o=(rD E mv call ops l σ o).map (·.at d x):=by
  unfold rD;have e:gate ops (σ.at d x).tm o=gate ops σ.tm o:=uL (l5 h1);rw [e];cases gate ops σ.tm o with
  | none=>rfl
  | some g =>
    cases g with
    | true=>exact acu (fun h=>h1 (List.mem_append_left _ h)) h2
    | false =>
      show some (skipped (σ.at d x) o)=some ((skipped σ o).at d x);exact congrArg some (by show (⟨put (σ.tm.set d x) o.dst _,σ.bx⟩:St)=⟨(put σ.tm o.dst _).set d x,σ.bx⟩;rw [nU h2])
theorem uM (hs:rD E mv call ops l σ o=some σ') {t:Nat} (h:o.dst≠some t):(σ'.tm[t]?).map AV.un=(σ.tm[t]?).map AV.un:=by
  obtain ⟨g,_,h2⟩:=Option.bind_eq_some_iff.mp hs;cases g with
  | true=>exact aaF h2 h
  | false =>
    cases h2
    show ((put σ.tm o.dst _)[t]?).map AV.un=_;rw [lM h]
theorem nE (hs:rD E mv call ops l σ o=some σ') (hk:uI E o=true):qL σ.bx σ'.bx:=by
  obtain ⟨g,_,h2⟩:=Option.bind_eq_some_iff.mp hs;cases g with
  | true=>exact aaG h2 hk
  | false=>cases h2;exact qL.refl _
def ad4 (E:Env) (ops:Array Oper) (o:Oper) (tm:List AV) (bx:List Bx):Option AV:=(gate ops tm o).bind fun b=>if b=true then aaA E o tm bx else some (.pt (.one .ud))
theorem xM (h:isF E mv o=true):rD E mv call ops l σ o=(ad4 E ops o σ.tm σ.bx).map fun x=>⟨put σ.tm o.dst x,σ.bx⟩:=by
  unfold rD ad4;cases gate ops σ.tm o with
  | none=>rfl
  | some g =>
    cases g with
    | true=>exact aaB h
    | false=>rfl
theorem uN {tm tm':List AV} {bx bx':List Bx} (h:Like (looks ops o) tm tm') (hb:qJ E.T o tm bx bx'∧acp E.T o tm bx bx') {x:AV} (hv:ad4 E ops o tm bx=some x):ad4 E ops o tm' bx'=some x:=by
  unfold ad4 at hv ⊢;rw [← uL h];obtain ⟨g,h1,h2⟩:=Option.bind_eq_some_iff.mp hv;rw [h1];cases g with
  | true=>exact p8 h.left hb h2
  | false=>exact h2
def af2:AV→Option Nat
  | .pt (.one (.bp l _))=>some l
  | .pt (.one (.ae l _ _ _))=>some l
  | .pt (.one (.mh l))=>some l
  | _=>none
def ad5 (σ:St):Prop:=∀ (t l:Nat) (x:AV),(σ.tm[t]?).map AV.un=some x→af2 x=some l→∃ B,σ.bx[l]? = some B∧(∀ (h:B=.no),False)
theorem afe {zc:TypeId→Option (List Cell)} {tm:List AV} {x:Operand} {l:Nat} {y:AV} (h:opd zc tm 0 x=some y) (hl:af2 y=some l):∃ t,x=.tmp t∧(tm[t]?).map AV.un=some y:=by
  cases x with
  | tmp t=>exact ⟨t,rfl,h⟩
  | const v =>
    exfalso
    have h:zS zc 0 v=_:=h;unfold zS at h;split at h
    · split at h
      · cases h;cases hl
      · cases h
    · cases h
    · cases h
    · cases h;cases hl
  | func f=>cases h;cases hl
  | global q=>cases h
theorem uO (h:xL o=true):uy o=false:=by unfold xL at h;simpa using h
theorem uP {B:Bx} (h:zi o=true) (hl:l≠lb):exec E mv call l ⟨σ.tm,σ.bx.set lb B⟩ o=(exec E mv call l σ o).map fun s=>⟨s.tm,s.bx.set lb B⟩:=by
  obtain ⟨dst,op,ty,pos,after,guard⟩:=o;have e:(σ.bx.set lb B)[l]? = σ.bx[l]? := by rw [List.getElem?_set,if_neg (Ne.symm hl)]
  cases op with
  | alloc t =>
    cases dst with
    | none=>cases h
    | some d =>
      simp only [exec,step,nA,e];cases E.T.zc t with
      | none=>rfl
      | some cs =>
        cases σ.bx[l]? with
        | none=>rfl
        | some b =>
          cases b with
          | no=>exact congrArg some (by simp only;rw [List.set_comm _ _ hl])
          | _=>rfl
  | box t x =>
    cases dst with
    | none=>cases h
    | some d =>
      simp only [exec,step,abW,e];cases opd E.T.zc σ.tm t x with
      | none=>rfl
      | some w =>
        cases w with
        | tup ps=>rfl
        | pt p =>
          cases σ.bx[l]? with
          | none=>rfl
          | some b =>
            cases b with
            | no =>
              simp only;split
              · exact congrArg some (by simp only;rw [List.set_comm _ _ hl])
              · rfl
            | _=>rfl
  | makeMap t r =>
    cases dst with
    | none=>cases h
    | some d =>
      cases r with
      | some r=>rfl
      | none =>
        simp only [exec,step,lD,ado,e];cases E.T.mp t with
        | none=>rfl
        | some q =>
          cases σ.bx[l]? with
          | none=>rfl
          | some b =>
            cases b with
            | no=>exact congrArg some (by simp only;rw [List.set_comm _ _ hl])
            | _=>rfl
  | _=>cases h
theorem oI {B:Bx} (h:zi o=true) (hl:l≠lb):rD E mv call ops l ⟨σ.tm,σ.bx.set lb B⟩ o=(rD E mv call ops l σ o).map fun s=>⟨s.tm,s.bx.set lb B⟩:=by
  unfold rD;cases gate ops σ.tm o with
  | none=>rfl
  | some g =>
    cases g with
    | true=>exact uP h hl
    | false=>rfl
theorem qb (h:zi o=true) (hs:rD E mv call ops l σ o=some σ'):∃ d x,o.dst=some d∧(σ'=⟨σ.tm.set d x,σ.bx⟩∨∃ B,σ'=⟨σ.tm.set d x,σ.bx.set l B⟩):=by
  obtain ⟨g,_,h2⟩:=Option.bind_eq_some_iff.mp hs;obtain ⟨dst,op,ty,pos,after,guard⟩:=o;cases dst with
  | none=>cases op <;> cases h
  | some d =>
    cases g with
    | false =>
      cases h2
      exact ⟨d,_,rfl,.inl rfl⟩
    | true =>
      simp only [if_true] at h2;cases op with
      | alloc t =>
        simp only [exec,step,nA] at h2;split at h2
        · cases h2;exact ⟨d,_,rfl,.inr ⟨_,rfl⟩⟩
        · cases h2
      | box t x =>
        simp only [exec,step,abW] at h2;split at h2
        · split at h2
          · cases h2;exact ⟨d,_,rfl,.inr ⟨_,rfl⟩⟩
          · cases h2
        · cases h2
      | makeMap t r =>
        cases r with
        | some r=>cases h2
        | none =>
          simp only [exec,step,lD,ado] at h2;split at h2
          · cases h2;exact ⟨d,_,rfl,.inr ⟨_,rfl⟩⟩
          · cases h2
      | _=>cases h
theorem aiB {s:Nat} {σ':St} (ht:ajk o=some s) (h:rD E mv call ops l σ o=some σ'):∃ d y1 y2,o.dst=some d∧(σ.tm[s]?).isSome=true∧σ'=(σ.at s y1).at d y2∧∀ (τ:St) (l':Nat),τ.tm[s]? = σ.tm[s]? → Like (mH o) τ.tm σ.tm→rD E mv call ops l' τ o=some ((τ.at s y1).at d y2):=by
  unfold ajk at ht;split at ht
  case h_2=>cases ht
  rename_i c d ho hd hg
  split at ht
  case isFalse=>cases ht
  rename_i happ
  split at ht
  case h_2=>cases ht
  rename_i s' x hargs
  cases ht
  have hc:c.callee=.builtin .append:=by
    unfold Call.xH at happ;split at happ
    · assumption
    · cases happ
  have hrun:∀ (l:Nat) (τ:St),rD E mv call ops l τ o=ko E.T τ c d:=fun l τ=>by
    unfold rD gate;rw [hg];simp only [Option.bind_some,if_true];unfold exec;rw [ho];simp only [hc];unfold step;rw [ho,hd];simp [happ]
  rw [hrun] at h;unfold ko at h;rw [hargs] at h;split at h
  case h_2=>cases h
  rename_i s2 x2 t t' q1 q2 q3
  simp only [List.cons.injEq,and_true] at q2;obtain ⟨rfl,rfl⟩:=q2;split at h
  case isFalse=>cases h
  rename_i htt
  obtain ⟨p,hp,rfl⟩:=Option.map_eq_some_iff.mp h;have hs:(σ.tm[s]?).isSome=true:=by
    cases hx:σ.tm[s]? with
    | some _=>rfl
    | none =>
      simp only [pR,hx] at hp;simp [af0] at hp
  refine ⟨d,.pt (.one p.1.un),.pt (.one p.2),hd,hs,rfl,fun τ l' e1 e2 => ?_⟩;have ex:opd E.T.zc τ.tm t x=opd E.T.zc σ.tm t x:=nD e2 (fun q hq=>eU (by
    subst hq;rw [ho];have:Operand.tmp q∈c.args.toList:=by rw [hargs];simp
    simp only [Op.operands,Call.operands,hc];simpa using this))
  rw [hrun];unfold ko;simp only [q1,hargs,q3];rw [if_pos htt,ex,show pR E.T τ.tm t (.tmp s)=pR E.T σ.tm t (.tmp s) from e1,hp];rfl
theorem ah4 {s:Nat} (ht:ajk o=some s):s∈looks ops o:=by
  unfold ajk at ht;split at ht
  case h_2=>cases ht
  rename_i c d ho hd hg
  split at ht
  case isFalse=>cases ht
  rename_i happ
  split at ht
  case h_2=>cases ht
  rename_i s' x hargs
  cases ht
  have hc:c.callee=.builtin .append:=by
    unfold Call.xH at happ;split at happ
    · assumption
    · cases happ
  refine List.mem_append_left _ (eU ?_);rw [ho];have:Operand.tmp s∈c.args.toList:=by rw [hargs];simp
  simp only [Op.operands,Call.operands,hc];simpa using this
theorem aie {s:Nat} {σ':St} (hs:(σ.tm[s]?).isSome=true) (h1:s ∉ looks ops o) (h2:o.dst≠some s) (h:rD E mv call ops l σ o=some σ'):σ'.tm[s]? = σ.tm[s]? := by
  obtain ⟨x,hx⟩:=Option.isSome_iff_exists.mp hs;have e:σ.at s x=σ:=by
    obtain ⟨tm,bx⟩:=σ;exact congrArg (fun t=>St.mk t bx) (set_self hx)
  have:=l6 (E:=E) (mv:=mv) (call:=call) (l:=l) (σ:=σ) (x:=x) h1 h2;rw [e,h] at this;have e2:σ'=σ'.at s x:=Option.some.inj this;have hl:=uM h h2;rw [hx] at hl;cases hq:σ'.tm[s]? with
  | none=>rw [hq] at hl;cases hl
  | some z =>
    have hlt:=(List.getElem?_eq_some_iff.1 hq).1;rw [hx,← hq,e2];show (σ'.tm.set s x)[s]? = some x;rw [List.getElem?_set,if_pos rfl,if_pos hlt]
theorem swap {σ1 σ2:St} (hr:ad5 σ) (hl:zi a=true→zi b=true→la≠lb) (h:uK E mv ops a b=true) (h1:rD E mv call ops la σ a=some σ1) (h2:rD E mv call ops lb σ1 b=some σ2) :
    ∃ σ1',rD E mv call ops lb σ b=some σ1'∧rD E mv call ops la σ1' a=some σ2:=by
  simp only [uK,Bool.and_eq_true,Bool.or_eq_true] at h;obtain ⟨⟨ha,hb⟩,hc⟩:=h;have ha1:∀ d,a.dst=some d→d ∉ looks ops b∧b.dst≠some d:=fun d e=>by
    rw [e] at ha;simp only [Option.all_some,Bool.and_eq_true,Bool.not_eq_true',bne_iff_ne] at ha;exact ⟨by simpa using ha.1,ha.2⟩
  have hb1:∀ d,b.dst=some d→d ∉ looks ops a∧a.dst≠some d:=fun d e=>by
    rw [e] at hb;simp only [Option.all_some,Bool.not_eq_true'] at hb;exact ⟨by simpa using hb,fun e'=>(ha1 d e').2 e⟩
  have aa:Like (looks ops b) σ1.tm σ.tm:=fun t ht=>uM h1 (fun e=>(ha1 t e).1 ht);rcases hc with (((⟨hF,hk⟩ | ⟨hF,hk⟩) | ⟨hA,hB⟩) | hT) | hT
  · -- b makes a value
    rw [xM hF] at h2;obtain ⟨x,hx,rfl⟩:=Option.map_eq_some_iff.mp h2;have hx':ad4 E ops b σ.tm σ.bx=some x:=by
      refine uN aa ?_ hx;rcases hk with hk | hk
      · exact qJ.of (.inl (uO hk))
      · have hold:∀ {y:Operand} {w:AV} {l:Nat},opd E.T.zc σ1.tm 0 y=some w→af2 w=some l→y∈b.op.operands→∃ B,σ.bx[l]? = some B∧(∀ (h:B=.no),False):=fun {y w l} hy hw hm=>by
          obtain ⟨q,rfl,hq⟩:=afe hy hw;have hq':(σ.tm[q]?).map AV.un=some w:=by
            rw [← aa q (List.mem_append_left _ (eU hm))];exact hq
          exact hr q l w hq' hw
        refine ⟨fun t y ho l off hy t' cs hcs => ?_,fun l B hs hcs hf => ?_⟩
        · obtain ⟨B,hB,hne⟩:=hold (l:=l) hy rfl (by rw [ho];simp [Op.operands])
          rcases nE h1 hk l with e | e | ⟨t2,c1,c2,e1,e2,e3⟩
          · exact ⟨cs,by rw [← e];exact hcs,rfl⟩
          · exact (hne (e _ hB)).elim
          · rw [hcs] at e2;cases e2;exact ⟨c1,e1,e3.symm⟩
        · obtain ⟨B0,hB0,hne⟩:∃ B0,σ.bx[l]? = some B0∧(∀ (h:B0=.no),False):=by
            rcases hs with ⟨t,y,k,i,off,ho,hy⟩ | ⟨t,m,y,ho,hy⟩
            · exact hold (l:=l) hy rfl (by rw [ho];simp [Op.operands])
            · exact hold (l:=l) hy rfl (by rw [ho];simp [Op.operands])
          rcases nE h1 hk l with e | e | ⟨t2,c1,c2,e1,e2,e3⟩
          · rw [← e];exact hcs
          · exact (hne (e _ hB0)).elim
          · rw [hcs] at e2;cases e2;cases hf
    refine ⟨⟨put σ.tm b.dst x,σ.bx⟩,by rw [xM hF,hx'];rfl,?_⟩;cases hd:b.dst with
    | none=>exact h1
    | some d =>
      obtain ⟨q1,q2⟩:=hb1 d hd;have:=l6 (E:=E) (mv:=mv) (call:=call) (l:=la) (σ:=σ) (x:=x) q1 q2;rw [h1] at this;exact this
  · -- a makes a value
    rw [xM hF] at h1;obtain ⟨x,hx,rfl⟩:=Option.map_eq_some_iff.mp h1;obtain ⟨σ1',hs,e2⟩:∃ σ1',rD E mv call ops lb σ b=some σ1'∧σ2=⟨put σ1'.tm a.dst x,σ1'.bx⟩:=by
      cases hd:a.dst with
      | none=>rw [hd] at h2;exact ⟨σ2,h2,rfl⟩
      | some d =>
        rw [hd] at h2;obtain ⟨q1,q2⟩:=ha1 d hd;have:=l6 (E:=E) (mv:=mv) (call:=call) (l:=lb) (σ:=σ) (x:=x) q1 q2;have h2:rD E mv call ops lb (σ.at d x) b=some σ2:=h2;rw [this] at h2;obtain ⟨s,hs,rfl⟩:=Option.map_eq_some_iff.mp h2;exact ⟨s,hs,rfl⟩
    refine ⟨σ1',hs,?_⟩;have hx':ad4 E ops a σ1'.tm σ1'.bx=some x:=by
      refine uN (fun t ht=>(uM hs (fun e=>(hb1 t e).1 ht)).symm) ?_ hx;rcases hk with hk | hk
      · exact qJ.of (.inl (uO hk))
      · refine qJ.of (.inr ⟨fun l t cs hcs => ?_,fun l B hcs hf => ?_⟩)
        · rcases nE hs hk l with e | e | ⟨t2,c1,c2,e1,e2,e3⟩
          · exact ⟨cs,by rw [e];exact hcs,rfl⟩
          · cases e _ hcs
          · rw [hcs] at e1;cases e1;exact ⟨c2,e2,e3⟩
        · rcases nE hs hk l with e | e | ⟨t2,c1,c2,e1,e2,e3⟩
          · rw [e];exact hcs
          · cases e _ hcs;cases hf
          · rw [hcs] at e1;cases e1;cases hf
    rw [xM hF,hx',e2];rfl
  · -- two variables
    have hne:=hl hA hB;obtain ⟨da,x,ea,hσ1⟩:=qb hA h1;obtain ⟨q1,q2⟩:=ha1 da ea;have h2':∃ s,rD E mv call ops lb σ b=some s∧(∀ B,σ1=⟨σ.tm.set da x,σ.bx.set la B⟩→σ2=⟨s.tm.set da x,s.bx.set la B⟩)∧(σ1=⟨σ.tm.set da x,σ.bx⟩→σ2=⟨s.tm.set da x,s.bx⟩):=by
      rcases hσ1 with e | ⟨B,e⟩
      · have:=l6 (E:=E) (mv:=mv) (call:=call) (l:=lb) (σ:=σ) (x:=x) q1 q2
        rw [show σ.at da x=σ1 from e.symm,h2] at this;obtain ⟨s,hs,e2⟩:=Option.map_eq_some_iff.mp this.symm;exact ⟨s,hs,fun B' e'=>by
          rw [e] at e';rw [← e2];have:σ.bx=σ.bx.set la B':=by injection e'
          show (⟨s.tm.set da x,s.bx⟩:St)=_;congr 1;obtain ⟨db,y,_,hs'⟩:=qb hB hs;rcases hs' with e3 | ⟨B3,e3⟩
          · rw [e3];exact this
          · rw [e3];simp only;rw [List.set_comm _ _ (Ne.symm hne),← this],fun _=>e2.symm⟩
      · have c1:=oI (E:=E) (mv:=mv) (call:=call) (ops:=ops) (l:=lb) (lb:=la) (σ:=σ) (B:=B) hB (Ne.symm hne)
        have c2:=l6 (E:=E) (mv:=mv) (call:=call) (l:=lb) (σ:=⟨σ.tm,σ.bx.set la B⟩) (x:=x) q1 q2;rw [show (⟨σ.tm,σ.bx.set la B⟩:St).at da x=σ1 from e.symm,h2,c1,Option.map_map] at c2;obtain ⟨s,hs,e2⟩:=Option.map_eq_some_iff.mp c2.symm;refine ⟨s,hs,fun B' e' => ?_,fun e' => ?_⟩
        · rw [e] at e'
          rw [← e2];show (⟨s.tm.set da x,s.bx.set la B⟩:St)=_;congr 1;have hbx:σ.bx.set la B=σ.bx.set la B':=by injection e'
          obtain ⟨db,y,_,hs'⟩:=qb hB hs;rcases hs' with e3 | ⟨B3,e3⟩
          · rw [e3];exact hbx
          · rw [e3];simp only;rw [List.set_comm _ _ (Ne.symm hne),hbx,List.set_comm _ _ hne]
        · rw [e] at e'
          rw [← e2];show (⟨s.tm.set da x,s.bx.set la B⟩:St)=_;congr 1;have hbx:σ.bx.set la B=σ.bx:=by injection e'
          obtain ⟨db,y,_,hs'⟩:=qb hB hs;rcases hs' with e3 | ⟨B3,e3⟩
          · rw [e3];exact hbx
          · rw [e3];simp only;rw [List.set_comm _ _ (Ne.symm hne),hbx]
    obtain ⟨s,hs,k1,k2⟩:=h2';refine ⟨s,hs,?_⟩;obtain ⟨db,y,eb,hs'⟩:=qb hB hs;obtain ⟨p1,p2⟩:=hb1 db eb;have hd:da≠db:=fun e=>p2 (by rw [ea,e]);rcases hs' with e3 | ⟨B3,e3⟩
    · have:=l6 (E:=E) (mv:=mv) (call:=call) (l:=la) (σ:=σ) (x:=y) p1 p2
      rw [show σ.at db y=s from e3.symm,h1] at this;rw [this];refine congrArg some ?_;rcases hσ1 with e | ⟨B,e⟩
      · rw [k2 e,e3,e];simp only [St.at];rw [List.set_comm _ _ hd]
      · rw [k1 B e,e3,e];simp only [St.at];rw [List.set_comm _ _ hd]
    · have c1:=oI (E:=E) (mv:=mv) (call:=call) (ops:=ops) (l:=la) (lb:=lb) (σ:=σ) (B:=B3) hA hne
      have c2:=l6 (E:=E) (mv:=mv) (call:=call) (l:=la) (σ:=⟨σ.tm,σ.bx.set lb B3⟩) (x:=y) p1 p2;rw [show (⟨σ.tm,σ.bx.set lb B3⟩:St).at db y=s from e3.symm,c1,h1] at c2;rw [c2];refine congrArg some ?_;rcases hσ1 with e | ⟨B,e⟩
      · rw [k2 e,e3,e];simp only [St.at];rw [List.set_comm _ _ hd]
      · rw [k1 B e,e3,e];simp only [St.at];rw [List.set_comm _ _ hd,List.set_comm _ _ hne]
  · -- a appends
    obtain ⟨s,hs,hT⟩:=(Option.any_eq_true _ _).1 hT;simp only [Bool.not_eq_true'] at hT;have hsb:s ∉ looks ops b:=by simpa using hT
    obtain ⟨d,y1,y2,hd,hss,rfl,hrun⟩:=aiB hs h1;obtain ⟨q1,q2⟩:=ha1 d hd;have hsa:s∈looks ops a:=ah4 hs;have hbs:b.dst≠some s:=fun e=>(hb1 s e).1 hsa;have e1:=l6 (E:=E) (mv:=mv) (call:=call) (l:=lb) (σ:=σ.at s y1) (x:=y2) q1 q2;rw [h2,l6 (E:=E) (mv:=mv) (call:=call) (l:=lb) (σ:=σ) (x:=y1) hsb hbs,Option.map_map] at e1;obtain ⟨σ1',g1,g2⟩:=Option.map_eq_some_iff.mp e1.symm;refine ⟨σ1',g1,?_⟩;rw [← g2];exact hrun σ1' la (aie hss hsb hbs g1) (fun t ht=>uM g1 (fun e=>(hb1 t e).1 (List.mem_append_left _ ht)))
  · -- b appends
    obtain ⟨s,hs,hT⟩:=(Option.any_eq_true _ _).1 hT;simp only [Bool.not_eq_true'] at hT;have hsa:s ∉ looks ops a:=by simpa using hT
    obtain ⟨d,y1,y2,hd,hss,rfl,hrun⟩:=aiB hs h2;obtain ⟨q1,q2⟩:=hb1 d hd;have hsb:s∈looks ops b:=ah4 hs;have has:a.dst≠some s:=fun e=>(ha1 s e).1 hsb;have hs0:(σ.tm[s]?).isSome=true:=by
      have:=uM h1 has;cases hx:σ.tm[s]? with
      | some _=>rfl
      | none =>
        rw [hx] at this;cases hz:σ1.tm[s]? with
        | none=>rw [hz] at hss;cases hss
        | some _=>rw [hz] at this;cases this
    have hk:=aie hs0 hsa has h1;refine ⟨_,hrun σ lb hk.symm (fun t ht=>(aa t (List.mem_append_left _ ht)).symm),?_⟩;rw [l6 (E:=E) (mv:=mv) (call:=call) (l:=la) (σ:=σ.at s y1) (x:=y2) q1 q2,l6 (E:=E) (mv:=mv) (call:=call) (l:=la) (σ:=σ) (x:=y1) hsa has,h1];rfl
end
end
end Go.Proofs.YtcomnjodjijcmaaGreat.M
namespace Go.Proofs.YtcomnjodjijcmaaGreat.M
noncomputable section
set_option linter.unusedVariables false
set_option linter.unusedSimpArgs false
open Go.RowKit Go.Proofs.YtcomnjodjijcmaaGreatW.dz Go.Proofs.YtcomnjodjijcmaaGreatW.dX
def Fn:Option Nat→Fence
  | none=>Fence.wide
  | some L=>Fence.wide.inRound L
theorem aaH (ro:Option Nat) (f:FuncId):(Fn ro).fn f:=by cases ro <;> trivial
theorem sj (ro:Option Nat):(Fn ro).depth=none:=by cases ro <;> rfl
theorem acy (ro:Option Nat):(Fn ro).round=ro:=by cases ro <;> rfl
section
variable {P:Program} {ro:Option Nat} {n:Nat} {K:Act→World→Prop} {Q:Exit→Act→World→Prop} {a:Act} {W:World} {o:Oper}
theorem ad6 {r:Next} {v:Value} {W':World} (hd:∀ c,o.op≠.defer c) (hr:(execOp a.eval o).run P W=.ok r W') (hn:r=.value v∨(r=.skip∧v=undef)) (h:K (a.put o.dst v) W'):o.wpIn (Fn ro) n P a W K Q:=by
  refine ⟨fun f _=>aaH ro f,?_⟩;rw [Oper.semAt_eq _ _ _ hd,hr];rcases hn with rfl | ⟨rfl,rfl⟩
  · exact h
  · exact h
theorem zk {f:FuncId} {args:Array Value} {W':World} (hd:∀ c,o.op≠.defer c) (hr:(execOp a.eval o).run P W=.ok (.enter f args) W') (h:Calls P f args W' fun e w=>∃ v,e=.returned v∧K (a.put o.dst v) w):o.wpIn (Fn ro) n P a W K Q:=by
  refine ⟨fun f _=>aaH ro f,?_⟩;rw [Oper.semAt_eq _ _ _ hd,hr,Oper.uponIn_enter];refine ⟨(fun h=>by rw [sj] at h;cases h),?_⟩;have h1:CallsIn Fence.wide (n - 1) P f args W' fun e w=>∃ v,e=.returned v∧K (a.put o.dst v) w:=callsIn_wide.2 h;have h2:CallsIn (Fn ro) (n - 1) P f args W' fun e w=>∃ v,e=.returned v∧K (a.put o.dst v) w:=by
    cases ro with
    | none=>exact h1
    | some L=>exact h1
  refine h2.mono ?_;rintro e w ⟨v,rfl,hk⟩;exact hk
theorem zl {l:Nat} {f:FuncId} {tmps:Array Value} {assign body:Code} {W':World} (hd:∀ c,o.op≠.defer c) (hr:(execOp a.eval o).run P W=.ok (.round l f tmps assign body) W') (h:RoundIn Fence.wide (n - 1) P l f tmps assign body W' fun e w=>∃ v,e=.returned v∧K (a.put o.dst v) w):o.wpIn (Fn ro) n P a W K Q:=by
  refine ⟨fun f _=>aaH ro f,?_⟩;rw [Oper.semAt_eq _ _ _ hd,hr,Oper.uponIn_round];refine ⟨(fun h=>by rw [sj] at h;cases h),?_⟩;have h2:RoundIn (Fn ro) (n - 1) P l f tmps assign body W' fun e w=>∃ v,e=.returned v∧K (a.put o.dst v) w:=by
    cases ro with
    | none=>exact h
    | some L=>exact h
  refine h2.mono ?_;rintro e w ⟨v,rfl,hk⟩;exact hk
end
def Does (P:Program) (u:Value) (vs:Array Value) (W:World) (R:Value→World→Prop):Prop :=
  (∃ v W',R v W')∧∀ (ro:Option Nat) (n:Nat) (o:Oper) (c:Call) (f:Operand) (a:Act) (K:Act→World→Prop) (Q:Exit→Act→World→Prop),o.op=.call c→c.callee=.value f→a.eval f=u→c.args.map a.eval=vs→(∀ v W',R v W'→K (a.put o.dst v) W')→o.wpIn (Fn ro) n P a W K Q
theorem oJ {P:Program} {f:FuncId} {fn:Func} (hf:P.funcs[f]? = some fn) (hn:(fn.name == "runtime.NumGoroutine")=false) (hb:fn.body.isSome=true) (args:Array Value) (W:World):(callFunc f args).run P W=.ok (.enter f args) W:=by
  have hb':fn.body.isNone=false:=by cases h:fn.body <;> simp_all
  simp only [callFunc,Sem.run_bind,program,Sem.run,Result.andThen_ok,hf,hn,hb',Bool.false_eq_true,if_false,Sem.run_pure]
theorem Does.fn {P:Program} {f:FuncId} {fn:Func} {caps vs:Array Value} {W:World} {R:Value→World→Prop} (hf:P.funcs[f]? = some fn) (hn:(fn.name == "runtime.NumGoroutine")=false) (hb:fn.body.isSome=true)
    (h:Calls P f (vs++caps) W fun e W'=>∃ v,e=.returned v∧R v W'):Does P (.func (.func f) #[] caps) vs W R:=by
  refine ⟨?_,fun ro n o c g a K Q ho hc hg hv hk => ?_⟩
  · obtain ⟨e,W',fr,⟨v,_,hR⟩,_⟩:=h []
    exact ⟨v,W',hR⟩
  · refine zk (f:=f) (args:=vs++caps) (W':=W) (fun c' e=>by rw [ho] at e;cases e) ?_ (h.mono ?_)
    · unfold execOp
      rw [ho];simp only [resolve,hc,hg,hv,Deferred.ofValue,Sem.run_bind,Sem.run_pure,Result.andThen_ok,invoke];rw [oJ hf hn hb];simp
    · rintro e w ⟨v,rfl,hR⟩
      exact ⟨v,rfl,hk v w hR⟩
def uQ (P:Program) (f:FuncId):Prop:=∃ fn,P.funcs[f]? = some fn∧aax fn=true
def After (fr d:Nat) (g:Gh) (W:World) (bx bx':List Bx) (r:AV) (v:Value) (W':World):Prop :=
  ∃ g',Wf g' W'∧nR g' W' bx'∧(∀ l,bx'.length≤l→¬ g'.lv l)∧bx.length≤bx'.length∧Evo (Loc.below (fr+1)) bx.length g W g' W'∧AVR bx'.length g' W' fr d r v
def aeU (P:Program) (f:FuncId) (m:List AV→List Bx→Option (Bool × AV × List Bx)):Prop:=(∃ fn,P.funcs[f]? = some fn∧(fn.name == "runtime.NumGoroutine")=false∧fn.body.isSome=true) ∧
  ∀ (g:Gh) (W:World) (fr d:Nat) (ys:List AV) (vs:Array Value) (bx bx':List Bx) (r:AV),Wf g W→nR g W bx→(∀ l,bx.length≤l→¬ g.lv l)→ys.length=vs.size→(∀ (i:Nat) (x:AV) (v:Value),ys[i]? = some x→vs[i]? = some v→∀ fr' i',AVR bx.length g W fr' i' x v)→m ys bx=some (true,r,bx') →
    r.refs bx.length=false∧Calls P f vs W fun e W'=>∃ v,e=.returned v∧After fr d g W bx bx' r v W'
def nV (P:Program) (E:Env):Prop:=(∀ f,E.nw f=true→uQ P f)∧(∀ f m,E.mt f=some m→aeU P f m)∧∀ f s,E.sum f=some s→∃ fn,P.funcs[f]? = some fn∧(fn.name == "runtime.NumGoroutine")=false∧fn.body.isSome=true ∧
  ∀ (nb:Nat) (g:Gh) (W:World) (fr d:Nat) (ys:List AV) (vs:Array Value) (r:AV),Wf g W→ys.length=vs.size→(∀ (i:Nat) (x:AV) (v:Value),ys[i]? = some x→vs[i]? = some v→∀ fr' i',AVR nb g W fr' i' x v)→s ys=some r →
    Calls P f vs W fun e W'=>∃ v,e=.returned v∧∃ g',Wf g' W'∧g'.lv=g.lv∧Evo (fun _=>True) nb g W g' W'∧AVR nb g' W' fr d r v
def mJ (P:Program) (call:ji) (fr:Nat) (g0:Gh) (W0:World) (nb0:Nat):Prop:=∀ (g:Gh) (W:World) (d:Nat) (ys:List AV) (vs:Array Value) (c:Cell) (u:Value) (bx bx':List Bx) (r:AV),
  Evo (Loc.below fr) nb0 g0 W0 g W→nb0≤bx.length→Wf g W→nR g W bx→(∀ l,bx.length≤l→¬ g.lv l)→CR bx.length g W (.bx 0) c.un u→ys.length=vs.size→(∀ (i:Nat) (x:AV) (v:Value),ys[i]? = some x→vs[i]? = some v→∀ fr' i',AVR bx.length g W fr' i' x v) →
    call c ys bx=some (r,bx')→Does P u vs W (After fr d g W bx bx' r)∧∀ f caps,u=.func (.func f) #[] caps→(∃ fn,P.funcs[f]? = some fn∧(fn.name == "runtime.NumGoroutine")=false∧fn.body.isSome=true)∧(Calls P f (vs++caps) W fun e W'=>∃ v,e=.returned v∧After fr d g W bx bx' r v W')∧(uQ P f→r.refs bx.length=true→bx'.take bx.length=bx)
section
variable {P:Program} {E:Env} {mv:Nat→Bool} {call:ji} {ops:Array Oper} {l l0 fr:Nat} {g g0:Gh} {W W0:World} {nb0:Nat} {σ σ':St} {a:Act} {o:Oper}
theorem nG (h:Rel fr g W σ a.tmps):∀ {xs:List Operand} {ts:List TypeId} {ys:List AV},gY E.T σ.tm xs ts=some ys→ys.length=xs.length∧∀ (i:Nat) (x:AV) (v:Value),ys[i]? = some x→(xs.map a.eval)[i]? = some v→∀ fr' i',AVR σ.bx.length g W fr' i' x v
  | [],[],ys,hy=>by cases hy;exact ⟨rfl,fun i x v hx=>by simp at hx⟩
  | [],_ :: _,ys,hy=>by cases hy
  | _ :: _,[],ys,hy=>by cases hy
  | x :: xs,t :: ts,ys,hy=>by
    simp only [gY] at hy;split at hy
    case h_2=>cases hy
    rename_i y ys' h1 h2
    cases hy
    obtain ⟨q1,q2⟩:=nG h h2;refine ⟨by simp [q1],fun i z v hz hv fr' i' => ?_⟩;cases i with
    | zero =>
      simp at hz hv
      subst hz;subst hv;exact fQ h h1 fr' i'
    | succ i=>exact q2 i z v (by simpa using hz) (by simpa using hv) fr' i'
def zm (P:Program) (fr:Nat) (g:Gh) (W:World) (σ:St) (a:Act) (o:Oper) (σ':St):Prop :=
  (∃ (g':Gh) (W':World) (a':Act),Rel fr g' W' σ' a'.tmps∧Evo (Loc.below fr) σ.bx.length g W g' W')∧σ.bx.length≤σ'.bx.length∧∀ (ro:Option Nat) (n:Nat) (K:Act→World→Prop) (Q:Exit→Act→World→Prop),
    (∀ g' W' a',Rel fr g' W' σ' a'.tmps→Evo (Loc.below fr) σ.bx.length g W g' W'→a'.defers=a.defers→K a' W')→o.wpIn (Fn ro) n P a W K Q
theorem put_defers (a:Act) (d:Option Nat) (v:Value):(a.put d v).defers=a.defers:=by cases d <;> rfl
theorem zm.aaI (h:Rel fr g W σ a.tmps) (hd:∀ c,o.op≠.defer c) (hs:xI P fr g W σ a o σ'):zm P fr g W σ a o σ':=by
  obtain ⟨r,v,W',g',h1,h2,h3,h4,h5⟩:=hs;exact ⟨⟨g',W',_,h3,h4⟩,Nat.le_of_eq h5.symm,fun ro n K Q hK=>ad6 hd h1 h2 (hK g' W' _ h3 h4 (put_defers _ _ _))⟩
theorem kM (h:Rel fr g W σ a.tmps) {d:Option Nat} {bx':List Bx} {r:AV} {v:Value} {W':World} (ha:After fr (d.getD 0) g W σ.bx bx' r v W'):∃ g',Rel fr g' W' ⟨put σ.tm d r,bx'⟩ (a.put d v).tmps∧Evo (Loc.below fr) σ.bx.length g W g' W':=by
  obtain ⟨g',h1,h2,h3,h4,h5,h6⟩:=ha;refine ⟨g',⟨h1,?_,h2,h3⟩,h5.weaken (fun ℓ=>Loc.qU (Nat.le_succ _)) (Nat.le_refl _)⟩;exact FrR.put (h.fr.evo h5 h4 (fun i j k=>Nat.lt_succ_self fr)) (fun d' e=>by rw [e] at h6;exact h6)
theorem rE (hC:mJ P call fr g0 W0 nb0) (hE:Evo (Loc.below fr) nb0 g0 W0 g W) (hn:nb0≤σ.bx.length) (h:Rel fr g W σ a.tmps) {c:Call} {f:Operand} {cell:Cell} (ho:o.op=.call c) (hc:c.callee=.value f) (hf:CR σ.bx.length g W (.bx 0) cell.un (a.eval f)) (hs:kX E call σ c o.dst cell=some σ'):zm P fr g W σ a o σ':=by
  obtain ⟨ys,h1,h2⟩:=Option.bind_eq_some_iff.mp hs;obtain ⟨⟨r,bx'⟩,h3,rfl⟩:=Option.map_eq_some_iff.mp h2;obtain ⟨q1,q2⟩:=nG h h1;obtain ⟨⟨⟨v,W',hR⟩,hD⟩,_⟩:=hC g W (o.dst.getD 0) ys (c.args.map a.eval) cell (a.eval f) σ.bx bx' r hE hn h.wf h.bx h.top hf (by simpa using q1) (fun i x v hx hv=>q2 i x v hx (by simpa using hv)) h3;obtain ⟨g',k1,k2⟩:=kM h hR;refine ⟨⟨g',W',_,k1,k2⟩,(let ⟨_,_,_,_,q,_⟩:=hR;q),fun ro n K Q hK=>hD ro n o c f a K Q ho hc rfl rfl (fun v W' hR => ?_)⟩;obtain ⟨g',k1,k2⟩:=kM h hR;exact hK g' W' _ k1 k2 (put_defers _ _ _)
theorem zn {f0:FuncId} {caps:Array Value} (hN:uQ P f0) (hC:mJ P call fr g0 W0 nb0) (hE:Evo (Loc.below fr) nb0 g0 W0 g W) (hn:nb0≤σ.bx.length) (h:Rel fr g W σ a.tmps) {c:Call} {f:Operand} {cell:Cell} (ho:o.op=.call c) (hc:c.callee=.value f) (hf:CR σ.bx.length g W (.bx 0) cell.un (a.eval f)) (hf0:a.eval f=.func (.func f0) #[] caps) (hs:mO E call σ c o.dst cell=some σ'):zm P fr g W σ a o σ':=by
  obtain ⟨ys,h1,h2⟩:=Option.bind_eq_some_iff.mp hs;obtain ⟨⟨r,bx'⟩,h3,h4⟩:=Option.bind_eq_some_iff.mp h2;split at h4
  case isFalse=>cases h4
  rename_i hr
  cases h4
  obtain ⟨q1,q2⟩:=nG h h1;obtain ⟨⟨⟨v,W',hR⟩,hD⟩,hF⟩:=hC g W (o.dst.getD 0) ys (c.args.map a.eval) cell (a.eval f) σ.bx bx' r hE hn h.wf h.bx h.top hf (by simpa using q1) (fun i x v hx hv=>q2 i x v hx (by simpa using hv)) h3;have htake:=(hF f0 caps hf0).2.2 hN hr;have hbx:σ.bx++bx'.drop σ.bx.length=bx':=by
    have:=List.take_append_drop σ.bx.length bx';rw [htake] at this;exact this
  simp only [hbx];obtain ⟨g',k1,k2⟩:=kM h hR;refine ⟨⟨g',W',_,k1,k2⟩,(let ⟨_,_,_,_,q,_⟩:=hR;q),fun ro n K Q hK=>hD ro n o c f a K Q ho hc rfl rfl (fun v W' hR => ?_)⟩;obtain ⟨g',k1,k2⟩:=kM h hR;exact hK g' W' _ k1 k2 (put_defers _ _ _)
theorem aaJ {T:Tb} {tm:List AV} {bx:List Bx} {c:Call} (ho:o.op=.defer c):val T tm bx o=none:=by
  unfold val;rw [ho];rfl
theorem step_defer {T:Tb} (hs:step T mv l σ o=some σ'):∀ c,o.op≠.defer c:=fun c ho=>by
  unfold step at hs;rw [ho] at hs;cases hd:o.dst <;> rw [hd] at hs <;> simp [quiet,aaJ ho] at hs
theorem nW (hS:nV P E) (h:Rel fr g W σ a.tmps) {c:Call} {fo:Operand} {f:FuncId} {s:List AV→Option AV} (ho:o.op=.call c) (hc:c.callee=.value fo) (hv:a.eval fo=.func (.func f) #[] #[]) (hsum:E.sum f=some s) (hs:jP E σ c o.dst s=some σ'):zm P fr g W σ a o σ':=by
  obtain ⟨r,hr,rfl⟩:=Option.map_eq_some_iff.mp hs;obtain ⟨ys,h1,h2⟩:=Option.bind_eq_some_iff.mp hr;obtain ⟨q1,q2⟩:=nG h h1;obtain ⟨fn,p1,p2,p3,p4⟩:=hS.2.2 f s hsum;have hcall:=p4 σ.bx.length g W fr (o.dst.getD 0) ys (c.args.map a.eval) r h.wf (by simpa using q1) (fun i x v hx hv=>q2 i x v hx (by simpa using hv)) h2;have hD:Does P (.func (.func f) #[] #[]) (c.args.map a.eval) W (After fr (o.dst.getD 0) g W σ.bx σ.bx r):=by
    refine Does.fn p1 p2 p3 ?_;rw [Array.append_empty];refine hcall.mono ?_;rintro e W' ⟨v,rfl,g',k1,k2,k3,k4⟩;refine ⟨v,rfl,g',k1,fun l B hB=>BxR.evo k3 (Nat.le_refl _) h.wf (List.getElem?_eq_some_iff.1 hB).1 (fun _=>trivial) trivial (fun hv=>by rw [← k2];exact hv) (h.bx l B hB),fun l hl hv=>h.top l hl (by rw [← k2];exact hv),Nat.le_refl _,k3.weaken (fun _ _=>trivial) (Nat.le_refl _),k4⟩
  obtain ⟨⟨v,W',hR⟩,hD⟩:=hD;obtain ⟨g',k1,k2⟩:=kM h hR;refine ⟨⟨g',W',_,k1,k2⟩,Nat.le_refl _,fun ro n K Q hK=>hD ro n o c fo a K Q ho hc hv rfl (fun v W' hR => ?_)⟩;obtain ⟨g',k1,k2⟩:=kM h hR;exact hK g' W' _ k1 k2 (put_defers _ _ _)
theorem ad7 (hT:lX P E.T) (hS:nV P E) (hC:mJ P call fr g0 W0 nb0) (hE:Evo (Loc.below fr) nb0 g0 W0 g W) (hn:nb0≤σ.bx.length) (h:Rel fr g W σ a.tmps) (hs:exec E mv call l σ o=some σ'):zm P fr g W σ a o σ':=by
  unfold exec at hs;split at hs
  · rename_i c ho
    split at hs
    · rename_i f hc
      split at hs
      · rename_i s hsum
        exact nW hS h ho hc rfl hsum hs
      · split at hs
        · rename_i hw
          exact zn (hS.1 f hw) hC hE hn h ho hc (show CR _ _ _ _ (.fn f []) _ from ⟨fun l hl=>by simp at hl,rfl⟩) rfl hs
        · exact rE hC hE hn h ho hc (show CR _ _ _ _ (.fn f []) _ from ⟨fun l hl=>by simp at hl,rfl⟩) hs
    · rename_i t hc
      split at hs
      · obtain ⟨cell,h1,h2'⟩:=Option.bind_eq_some_iff.mp hs
        obtain ⟨s,hsum,h2⟩:=Option.bind_eq_some_iff.mp h2';clear h2';obtain ⟨x,hx,hx2⟩:=Option.bind_eq_some_iff.mp h1;have:=h.tmp hx;unfold cellOf? at hx2;split at hx2
        · cases hx2
          unfold sumOf at hsum;split at hsum
          · rename_i f
            have e:(∀ l∈([]:List Nat),l<σ.bx.length∧g.lv l)∧a.eval (.tmp t)=.func (.func f) #[] (([]:List Nat).map fun l=>Value.pointer (some ⟨g.bx l,0,none⟩)).toArray:=this;exact nW hS h ho hc (by simpa using e.2) hsum h2
          · cases hsum
        · cases hx2
      obtain ⟨cell,h1,h2⟩:=Option.bind_eq_some_iff.mp hs;obtain ⟨x,hx,hx2⟩:=Option.bind_eq_some_iff.mp h1;have:=h.tmp hx;unfold cellOf? at hx2;split at hx2
      · cases hx2
        unfold ku at h2;split at h2
        · rename_i s hsum
          unfold sumOf at hsum;split at hsum
          · rename_i f
            have e:(∀ l∈([]:List Nat),l<σ.bx.length∧g.lv l)∧a.eval (.tmp t)=.func (.func f) #[] (([]:List Nat).map fun l=>Value.pointer (some ⟨g.bx l,0,none⟩)).toArray:=this;exact nW hS h ho hc (by simpa using e.2) hsum h2
          · cases hsum
        · exact rE hC hE hn h ho hc (CR.un (ℓ:=.tm fr t 0 0) this) h2
      · cases hx2
    · cases hs
    · exact .aaI h (step_defer hs) (step_ok hT h hs)
  · exact .aaI h (step_defer hs) (step_ok hT h hs)
theorem ad8 (h:Rel fr g W σ a.tmps) {b:Bool} (hg:gate ops σ.tm o=some b):Region.wanted o (yielded ops a.tmps)=b:=by
  unfold gate at hg;unfold Region.wanted;cases hgd:o.guard with
  | none=>rw [hgd] at hg;cases hg;rfl
  | some jw =>
    obtain ⟨j,w⟩:=jw;rw [hgd] at hg;simp only at hg ⊢;have hgt:acv ops o=(ops[j]?).bind (·.dst):=by simp [acv,hgd]
    rw [hgt] at hg;unfold yielded;cases hd:(ops[j]?).bind (·.dst) with
    | none=>rw [hd] at hg;simp at hg
    | some d =>
      rw [hd] at hg;simp only [Option.bind_some] at hg ⊢;have hv:∀ {x:AV},(σ.tm[d]?).map AV.un=some x→∃ v,a.tmps[d]? = some v∧AVR σ.bx.length g W fr d x v:=fun {x} hx=>by
        obtain ⟨y,hy,rfl⟩:=Option.map_eq_some_iff.mp hx;have hlt:d<a.tmps.size:=by rw [← h.fr.1];exact (List.getElem?_eq_some_iff.1 hy).1
        exact ⟨a.tmps[d],by simp [hlt],(h.fr.2 d y _ hy (by simp [hlt])).un⟩
      split at hg
      · rename_i b' hx
        obtain ⟨v,hv1,hv2⟩:=hv hx;have hv2:v=.bool b':=hv2.1;cases hg;rw [hv1,hv2];cases b' <;> cases w <;> rfl
      · rename_i hx
        obtain ⟨v,hv1,hv2⟩:=hv hx;have hv2:v=undef:=hv2;cases hg;rw [hv1,hv2];rfl
      · cases hg
theorem wu (hT:lX P E.T) (hS:nV P E) (hC:mJ P call fr g0 W0 nb0) (hE:Evo (Loc.below fr) nb0 g0 W0 g W) (hn:nb0≤σ.bx.length) (h:Rel fr g W σ a.tmps) {i:Nat} (hs:opAt E mv call ops l0 i σ=some σ') :
    (∃ (g':Gh) (W':World) (a':Act),Rel fr g' W' σ' a'.tmps∧Evo (Loc.below fr) σ.bx.length g W g' W')∧σ.bx.length≤σ'.bx.length∧∀ (ro:Option Nat) (n:Nat) (K:Act→World→Prop) (Q:Exit→Act→World→Prop),
      (∀ g' W' a',Rel fr g' W' σ' a'.tmps→Evo (Loc.below fr) σ.bx.length g W g' W'→a'.defers=a.defers→K a' W')→wpOpIn (Fn ro) n P ops Q i K a W:=by
  obtain ⟨o,ho,h1⟩:=Option.bind_eq_some_iff.mp hs;obtain ⟨b,hg,h2⟩:=Option.bind_eq_some_iff.mp h1;have hw:=ad8 h hg;cases b with
  | true =>
    obtain ⟨q1,q0,q2⟩:=ad7 hT hS hC hE hn h h2;refine ⟨q1,q0,fun ro n K Q hK => ?_⟩;unfold wpOpIn;simp only [ho,hw,if_true];exact q2 ro n K Q hK
  | false =>
    cases h2
    have hr:Rel fr g W (skipped σ o) (a.put o.dst undef).tmps:=h.put (fun d' _=>rfl);refine ⟨⟨g,W,_,hr,Evo.refl _ _ _ _⟩,Nat.le_refl _,fun ro n K Q hK => ?_⟩;unfold wpOpIn;simp only [ho,hw];exact ⟨fun f _=>aaH ro f,hK g W _ hr (Evo.refl _ _ _ _) (put_defers _ _ _)⟩
end
end
end Go.Proofs.YtcomnjodjijcmaaGreat.M
namespace Go.Proofs.YtcomnjodjijcmaaGreat.M
noncomputable section
set_option linter.unusedVariables false
set_option linter.unusedSimpArgs false
open Go.RowKit Go.Proofs.YtcomnjodjijcmaaGreatW.dz Go.Proofs.YtcomnjodjijcmaaGreatW.dX
def nX (ops:Array Oper):Nat:=(ops.toList.filter zi).length
def reserve (σ:St) (m:Nat):St:=⟨σ.tm,σ.bx++List.replicate m .no⟩
def mP (acc:List Nat) (o:Oper):Nat:=o.after.toList.foldl (fun s e=>if Region.binds .any e then s ||| 2 ^ e.on ||| acc.getD e.on 0 else s) 0
def masks:List Oper→List Nat→List Nat
  | [],acc=>acc
  | o :: r,acc=>masks r (acc++[mP acc o])
def nY (E:Env) (mv:Nat→Bool) (ops:Array Oper) (m:Nat) (b:Oper):Nat→List Oper→Bool
  | _,[]=>true
  | j,a :: r=>(m.testBit j || uK E mv ops a b)&&nY E mv ops m b (j+1) r
def xO (E:Env) (mv:Nat→Bool) (ops:Array Oper) (all:List Oper) (ms:List Nat):Nat→List Oper→Bool
  | _,[]=>true
  | i,b :: r=>(b.after.toList.all fun e => !Region.binds .any e || e.on<i)&&nY E mv ops (ms.getD i 0) b 0 (all.take i)&&xO E mv ops all ms (i+1) r
def acz (E:Env) (mv:Nat→Bool) (ops:Array Oper):Bool:=xO E mv ops ops.toList (masks ops.toList []) 0 ops.toList
def adp (E:Env) (mv:Nat→Bool) (call:ji) (ops:Array Oper) (draw:Bool) (σ:St):Option St :=
  if (!draw || acz E mv ops)=true then acw E mv call ops σ.bx.length (List.range ops.size) (reserve σ (nX ops)) else none
section
variable {P:Program} {E:Env} {mv:Nat→Bool} {call:ji} {ops:Array Oper} {l l0 fr:Nat} {g g0:Gh} {W W0:World} {nb0:Nat} {σ σ' σf:St} {a:Act} {o:Oper}
theorem Rel.reserve (h:Rel fr g W σ a.tmps) (m:Nat):Rel fr g W (reserve σ m) a.tmps:=by
  have hl:(σ.bx++List.replicate m Bx.no).length=σ.bx.length+m:=by simp
  have hev:Evo (fun _=>True) σ.bx.length g W g W:=Evo.refl _ _ _ _;refine ⟨h.wf,?_,fun l B hB => ?_,fun l hl'=>h.top l (by simp only [M.reserve] at hl';omega)⟩
  · show FrR (σ.bx++List.replicate m Bx.no).length _ _ _ _ _
    exact h.fr.evo hev (by omega) (fun _ _ _=>trivial)
  · show BxR (σ.bx++List.replicate m Bx.no).length _ _ _ _
    have hB:(σ.bx++List.replicate m Bx.no)[l]? = some B:=hB;rw [List.getElem?_append] at hB;split at hB
    · rename_i hlt
      exact BxR.evo hev (by omega) h.wf hlt (fun _=>trivial) trivial (fun h=>h) (h.bx l B hB)
    · rename_i hge
      rw [List.getElem?_replicate] at hB;split at hB
      · cases hB
        exact h.top l (by omega)
      · cases hB
theorem Rel.ptr (h:Rel fr g W σ a.tmps):ad5 σ:=fun t l y ht hy=>by
  obtain ⟨x,hx,hx2⟩:=Option.map_eq_some_iff.mp ht;have:=(h.tmp hx).un (fr':=0) (i':=0);rw [hx2] at this;obtain ⟨hl,hv⟩:l<σ.bx.length∧g.lv l:=by
    unfold af2 at hy;split at hy
    · cases hy;exact this.1
    · cases hy;exact this.1
    · cases hy;exact this.1
    · cases hy
  refine ⟨σ.bx[l],by simp [hl],fun e => ?_⟩;have:=h.bx l _ (List.getElem?_eq_getElem hl);rw [e] at this;exact this hv
theorem aaK (hT:lX P E.T) (hS:nV P E) (hC:mJ P call fr g0 W0 nb0) {ro:Option Nat} {n:Nat} {Q:Exit→Act→World→Prop}:∀ (is:List Nat) (g:Gh) (W:World) (σ:St) (a:Act),Evo (Loc.below fr) nb0 g0 W0 g W→nb0≤σ.bx.length→Rel fr g W σ a.tmps→acw E mv call ops l0 is σ=some σf →
    (∀ g' W' a',Rel fr g' W' σf a'.tmps→Evo (Loc.below fr) σ.bx.length g W g' W'→σ.bx.length≤σf.bx.length→a'.defers=a.defers→Q .normal a' W')→wpOpsIn (Fn ro) n P ops Q is a W
  | [],g,W,σ,a,hE,hn,h,hs,hQ=>by
    cases hs
    exact hQ g W a h (Evo.refl _ _ _ _) (Nat.le_refl _) rfl
  | i :: r,g,W,σ,a,hE,hn,h,hs,hQ=>by
    obtain ⟨σ1,h1,h2⟩:=Option.bind_eq_some_iff.mp hs;obtain ⟨_,q0,q2⟩:=wu hT hS hC hE hn h h1;rw [wpOpsIn_cons];refine q2 ro n _ Q (fun g1 W1 a1 k1 k2 k3 => ?_);exact aaK hT hS hC r g1 W1 σ1 a1 (hE.trans k2 hn) (Nat.le_trans hn q0) k1 h2 (fun g' W' a' e1 e2 e4 e3=>hQ g' W' a' e1 (k2.trans e2 q0) (Nat.le_trans q0 e4) (e3.trans k3))
theorem slot_ne {i j:Nat} {x y:Oper} (hij:j<i) (hj:ops[j]? = some x) (hx:zi x=true):mI ops l0 j≠mI ops l0 i:=by
  unfold mI;have:((ops.toList.take j).filter zi).length<((ops.toList.take i).filter zi).length:=by
    have e:ops.toList.take i=ops.toList.take j++(ops.toList.drop j).take (i - j):=by
      rw [← List.take_add];congr 1;omega
    rw [e,List.filter_append,List.length_append];have hne:(((ops.toList.drop j).take (i - j)).filter zi)≠[]:=by
      intro h;have hm:x∈(ops.toList.drop j).take (i - j):=by
        apply List.mem_of_getElem? (i:=0)
        rw [List.getElem?_take,if_pos (by omega),List.getElem?_drop];simpa using hj
      have:=List.mem_filter.2 ⟨hm,hx⟩;rw [h] at this;cases this
    have:=List.length_pos_iff.2 hne;omega
  omega
def Met (fr nb0:Nat) (g0:Gh) (W0:World) (σ:St):Prop:=nb0≤σ.bx.length∧∃ g W a,Evo (Loc.below fr) nb0 g0 W0 g W∧Rel fr g W σ (Act.tmps a)
theorem Met.step (hT:lX P E.T) (hS:nV P E) (hC:mJ P call fr g0 W0 nb0) (h:Met fr nb0 g0 W0 σ) {i:Nat} (hs:opAt E mv call ops l0 i σ=some σ'):Met fr nb0 g0 W0 σ':=by
  obtain ⟨hn,g,W,a,hE,hR⟩:=h;obtain ⟨⟨g',W',a',k1,k2⟩,q0,_⟩:=wu hT hS hC hE hn hR hs;exact ⟨Nat.le_trans hn q0,g',W',a',hE.trans k2 hn,k1⟩
theorem xP (hT:lX P E.T) (hS:nV P E) (hC:mJ P call fr g0 W0 nb0) {i:Nat} {b:Oper} (hb:ops[i]? = some b) {B:List Nat}:∀ (A:List Nat) (σ:St),Met fr nb0 g0 W0 σ→(∀ j∈A,j<i∧∃ x,ops[j]? = some x∧uK E mv ops x b=true)→acw E mv call ops l0 (A++i :: B) σ=some σf →
    ∃ σ1,opAt E mv call ops l0 i σ=some σ1∧acw E mv call ops l0 (A++B) σ1=some σf
  | [],σ,_,_,hs=>by
    obtain ⟨σ1,h1,h2⟩:=Option.bind_eq_some_iff.mp hs;exact ⟨σ1,h1,h2⟩
  | j :: A,σ,hM,hA,hs=>by
    obtain ⟨σ1,h1,h2⟩:=Option.bind_eq_some_iff.mp hs;obtain ⟨σ2,h3,h4⟩:=xP hT hS hC hb A σ1 (hM.step hT hS hC h1) (fun k hk=>hA k (List.mem_cons_of_mem _ hk)) h2;obtain ⟨hj,x,hx,hsw⟩:=hA j List.mem_cons_self;have aa:ad5 σ:=by
      obtain ⟨_,g,W,a,_,hR⟩:=hM;exact hR.ptr
    obtain ⟨x',hx',r1⟩:=Option.bind_eq_some_iff.mp h1;rw [hx] at hx';cases hx';obtain ⟨b',hb',r2⟩:=Option.bind_eq_some_iff.mp h3;rw [hb] at hb';cases hb';obtain ⟨σ3,s1,s2⟩:=swap aa (fun hax _=>slot_ne (y:=b) hj hx hax) hsw r1 r2;refine ⟨σ3,by unfold opAt;rw [hb];exact s1,?_⟩;show (opAt E mv call ops l0 j σ3).bind _=_;have:opAt E mv call ops l0 j σ3=some σ2:=by unfold opAt;rw [hx];exact s2
    rw [this];exact h4
theorem uR (acc:List Nat) (j:Nat):∀ (es:List Edge) (s:Nat),(es.foldl (fun s e=>if Region.binds .any e then s ||| 2 ^ e.on ||| acc.getD e.on 0 else s) s).testBit j=true→s.testBit j=true∨∃ e∈es,Region.binds .any e=true∧(j=e.on∨(acc.getD e.on 0).testBit j=true)
  | [],s,h=>.inl h
  | e :: r,s,h=>by
    simp only [List.foldl_cons] at h;rcases uR acc j r _ h with h1 | ⟨e',h1,h2⟩
    · split at h1
      · rename_i hb
        rw [Nat.testBit_or,Nat.testBit_or,Nat.testBit_two_pow] at h1;simp only [Bool.or_eq_true,decide_eq_true_eq] at h1;rcases h1 with (h1 | h1) | h1
        · exact .inl h1
        · exact .inr ⟨e,List.mem_cons_self,hb,.inl h1.symm⟩
        · exact .inr ⟨e,List.mem_cons_self,hb,.inr h1⟩
      · exact .inl h1
    · exact .inr ⟨e',List.mem_cons_of_mem _ h1,h2⟩
theorem nZ:∀ (os:List Oper) (acc:List Nat),(masks os acc).take acc.length=acc∧(masks os acc).length=acc.length+os.length
  | [],acc=>⟨List.take_length,rfl⟩
  | o :: r,acc=>by
    obtain ⟨h1,h2⟩:=nZ r (acc++[mP acc o]);refine ⟨?_,by show (masks r (acc++[mP acc o])).length=_;rw [h2];simp;omega⟩;have:(masks r (acc++[mP acc o])).take acc.length=((masks r (acc++[mP acc o])).take (acc++[mP acc o]).length).take acc.length:=by
      rw [List.take_take];congr 1;simp
    show (masks r (acc++[mP acc o])).take acc.length=acc;rw [this,h1];simp
theorem xQ:∀ (os:List Oper) (acc:List Nat) (i:Nat) (o:Oper),os[i]? = some o→∃ acc',acc'.length=acc.length+i∧acc'=(masks os acc).take (acc.length+i)∧(masks os acc).getD (acc.length+i) 0=mP acc' o
  | [],acc,i,o,h=>by simp at h
  | p :: r,acc,i,o,h=>by
    cases i with
    | zero =>
      simp at h
      subst h;obtain ⟨h1,h2⟩:=nZ r (acc++[mP acc p]);have h0:=nZ (p :: r) acc;refine ⟨acc,rfl,h0.1.symm,?_⟩;have:((masks r (acc++[mP acc p])).take (acc++[mP acc p]).length)[acc.length]? = some (mP acc p):=by rw [h1];simp
      rw [List.getElem?_take,if_pos (by simp)] at this;show (masks r (acc++[mP acc p])).getD (acc.length+0) 0=_;rw [Nat.add_zero,List.getD_eq_getElem?_getD,this];rfl
    | succ i =>
      obtain ⟨acc',h1,h2,h3⟩:=xQ r (acc++[mP acc p]) i o (by simpa using h);have e:(acc++[mP acc p]).length+i=acc.length+(i+1):=by simp;omega
      rw [e] at h1 h2 h3;exact ⟨acc',h1,h2,h3⟩
def Closed (ops:Array Oper) (listed:Array Bool):Prop:=∀ i,listed.getD i false=true→∀ j,((masks ops.toList []).getD i 0).testBit j=true→listed.getD j false=true
theorem uS {listed:Array Bool} (hc:Closed ops listed) {i:Nat} (hi:i∈Region.ready .any ops listed) {b:Oper} (hb:ops[i]? = some b) (he:∀ e∈b.after.toList,Region.binds .any e=true→e.on<i):∀ j,((masks ops.toList []).getD i 0).testBit j=true→listed.getD j false=true:=by
  intro j hj;obtain ⟨_,o,ho,hall⟩:=mem_ready.1 hi;rw [hb] at ho;cases ho;obtain ⟨acc',h1,h2,h3⟩:=xQ ops.toList [] i b (by simpa using hb);simp only [List.length_nil,Nat.zero_add] at h1 h2 h3;rw [h3] at hj;rcases uR acc' j _ _ hj with h | ⟨e,e1,e2,e3⟩
  · simp at h
  · have hl:=hall e (by simpa using e1) e2
    rcases e3 with rfl | e3
    · exact hl
    · refine hc e.on hl j ?_
      have hlt:=he e e1 e2;have:acc'.getD e.on 0=(masks ops.toList []).getD e.on 0:=by
        rw [h2,List.getD_eq_getElem?_getD,List.getD_eq_getElem?_getD,List.getElem?_take,if_pos hlt]
      rw [← this];exact e3
theorem oK {m:Nat} {b:Oper}:∀ (ps:List Oper) (j0:Nat),nY E mv ops m b j0 ps=true→∀ (j:Nat) (x:Oper),ps[j]? = some x→m.testBit (j0+j)=true∨uK E mv ops x b=true
  | [],_,_,j,x,hx=>by simp at hx
  | y :: r,j0,h,j,x,hx=>by
    simp only [nY,Bool.and_eq_true,Bool.or_eq_true] at h;cases j with
    | zero=>simp at hx;subst hx;exact h.1
    | succ j =>
      have:=oK r (j0+1) h.2 j x (by simpa using hx);rwa [show j0+1+j=j0+(j+1) by omega] at this
theorem qc {all:List Oper} {ms:List Nat}:∀ (bs:List Oper) (i0:Nat),xO E mv ops all ms i0 bs=true→∀ i b,bs[i]? = some b→(∀ e∈b.after.toList,Region.binds .any e=true→e.on<i0+i)∧nY E mv ops (ms.getD (i0+i) 0) b 0 (all.take (i0+i))=true
  | [],_,_,i,b,hb=>by simp at hb
  | y :: r,i0,h,i,b,hb=>by
    simp only [xO,Bool.and_eq_true] at h;cases i with
    | zero =>
      simp at hb
      subst hb;refine ⟨fun e he hbind => ?_,h.1.2⟩;have:=List.all_eq_true.1 h.1.1 e he;simpa [hbind] using this
    | succ i =>
      have:=qc r (i0+1) h.2 i b (by simpa using hb);rwa [show i0+1+i=i0+(i+1) by omega] at this
theorem any_ok (hT:lX P E.T) (hS:nV P E) (hC:mJ P call fr g0 W0 nb0) (hA:acz E mv ops=true) {ro:Option Nat} {n:Nat} {Q:Exit→Act→World→Prop}:∀ (fuel:Nat) (listed:Array Bool) (g:Gh) (W:World) (σ:St) (a:Act) (rem:List Nat),
    rem.length=fuel→rem.Pairwise (· < ·)→(∀ i,i∈rem↔i<ops.size∧listed.getD i true=false)→listed.size=ops.size→Closed ops listed →
    Evo (Loc.below fr) nb0 g0 W0 g W→nb0≤σ.bx.length→Rel fr g W σ a.tmps→acw E mv call ops l0 rem σ=some σf →
    (∀ g' W' a',Rel fr g' W' σf a'.tmps→Evo (Loc.below fr) σ.bx.length g W g' W'→σ.bx.length≤σf.bx.length→a'.defers=a.defers→Q .normal a' W')→wpAnyIn (Fn ro) n P .any ops Q fuel listed a W
  | 0,listed,g,W,σ,a,rem,hlen,hsort,hrem,hsz,hcl,hE,hn,h,hs,hQ=>by
    obtain rfl:rem=[]:=List.eq_nil_of_length_eq_zero hlen;cases hs;refine ⟨?_,hQ g W a h (Evo.refl _ _ _ _) (Nat.le_refl _) rfl⟩;rw [List.eq_nil_iff_forall_not_mem];intro i hi;obtain ⟨h0,o,ho,_⟩:=mem_ready.1 hi;have:=(hrem i).2 ⟨(Array.getElem?_eq_some_iff.1 ho).1,h0⟩;cases this
  | fuel+1,listed,g,W,σ,a,rem,hlen,hsort,hrem,hsz,hcl,hE,hn,h,hs,hQ=>by
    have hspec:∀ i b,ops[i]? = some b→(∀ e∈b.after.toList,Region.binds .any e=true→e.on<i)∧nY E mv ops ((masks ops.toList []).getD i 0) b 0 (ops.toList.take i)=true:=fun i b hb=>by
      have:=qc ops.toList 0 hA i b (by simpa using hb);rwa [Nat.zero_add] at this
    have hfl:∀ i,i<ops.size→(listed.getD i false=true↔¬ listed.getD i true=false):=fun i hi=>by
      have:i<listed.size:=by omega
      simp [this]
    constructor
    · intro hnil
      exfalso
      cases rem with
      | nil=>cases hlen
      | cons i r =>
        obtain ⟨hi1,hi2⟩:=(hrem i).1 List.mem_cons_self;have hb:ops[i]? = some ops[i]:=by simp [hi1]
        have:i∈Region.ready .any ops listed:=mem_ready.2 ⟨hi2,ops[i],hb,fun e he hbind=>by
          have hlt:=(hspec i _ hb).1 e (by simpa using he) hbind;refine (hfl e.on (by omega)).2 (fun hun => ?_);have hm:=(hrem e.on).2 ⟨by omega,hun⟩;rcases List.mem_cons.1 hm with rfl | hm
          · omega
          · have:=(List.pairwise_cons.1 hsort).1 _ hm
            omega⟩
        rw [hnil] at this;cases this
    · intro i hi
      obtain ⟨h0,b,hb,_⟩:=mem_ready.1 hi;have hi1:i<ops.size:=(Array.getElem?_eq_some_iff.1 hb).1;obtain ⟨A,B,rfl⟩:=List.append_of_mem ((hrem i).2 ⟨hi1,h0⟩);have hpre:=uS hcl hi hb (hspec i b hb).1;have aa:∀ j∈A,j<i:=fun j hj=>(List.pairwise_append.1 hsort).2.2 j hj i List.mem_cons_self;obtain ⟨σ1,h1,h2⟩:=xP hT hS hC hb A σ ⟨hn,g,W,a,hE,h⟩ (fun j hj=>by
        have hlt:=aa j hj;obtain ⟨hj1,hj2⟩:=(hrem j).1 (List.mem_append_left _ hj);have hx:ops[j]? = some ops[j]:=by simp [hj1]
        refine ⟨hlt,_,hx,?_⟩;have:=oK _ _ (hspec i b hb).2 j ops[j] (by rw [List.getElem?_take,if_pos hlt];simp [hj1]);rw [Nat.zero_add] at this;rcases this with hm | hsw
        · exact absurd hj2 ((hfl j hj1).1 (hpre j hm))
        · exact hsw) hs
      obtain ⟨_,q0,q2⟩:=wu hT hS hC hE hn h h1;refine q2 ro n _ Q (fun g1 W1 a1 k1 k2 k3 => ?_);have hnd:i ∉ A++B:=by
        have:=hsort.imp (fun h=>Nat.ne_of_lt h);have:=(List.pairwise_append.1 this);intro hm;rcases List.mem_append.1 hm with hm | hm
        · exact (this.2.2 i hm i List.mem_cons_self) rfl
        · exact ((List.pairwise_cons.1 this.2.1).1 i hm) rfl
      refine any_ok hT hS hC hA fuel _ g1 W1 σ1 a1 (A++B) (by simp at hlen ⊢;omega) ?_ (fun j => ?_) (by simpa using hsz) ?_ (hE.trans k2 hn) (Nat.le_trans hn q0) k1 h2 (fun g' W' a' e1 e2 e4 e3=>hQ g' W' a' e1 (k2.trans e2 q0) (Nat.le_trans q0 e4) (e3.trans k3))
      · obtain ⟨s1,s2,s3⟩:=List.pairwise_append.1 hsort
        exact List.pairwise_append.2 ⟨s1,(List.pairwise_cons.1 s2).2,fun x hx y hy=>s3 x hx y (List.mem_cons_of_mem _ hy)⟩
      · constructor
        · intro hj
          have hne:i≠j:=fun e=>hnd (e ▸ hj);have:=(hrem j).1 (by rcases List.mem_append.1 hj with hj | hj;exact List.mem_append_left _ hj;exact List.mem_append_right _ (List.mem_cons_of_mem _ hj));exact ⟨this.1,by rw [getD_set_ne true hne];exact this.2⟩
        · rintro ⟨hj1,hj2⟩
          by_cases e:i=j
          · subst e
            have:i<listed.size:=by omega
            simp [this] at hj2
          · rw [getD_set_ne true e] at hj2
            have:=(hrem j).2 ⟨hj1,hj2⟩;rcases List.mem_append.1 this with hj | hj
            · exact List.mem_append_left _ hj
            · rcases List.mem_cons.1 hj with rfl | hj
              · exact absurd rfl e
              · exact List.mem_append_right _ hj
      · intro k hk j hj
        by_cases e:i=k
        · subst e
          exact getD_set_true (hpre j hj)
        · rw [getD_set_ne false e] at hk
          exact getD_set_true (hcl k hk j hj)
theorem ad9 (hT:lX P E.T) (hS:nV P E) (hm:P.follows .mixedOrders=true) (hC:mJ P call fr g0 W0 nb0) (hE:Evo (Loc.below fr) nb0 g0 W0 g W) (hn:nb0≤σ.bx.length) (h:Rel fr g W σ a.tmps) {id:Nat} {draw:Bool} (hs:adp E mv call ops draw σ=some σf) {ro:Option Nat} {n:Nat} {Q:Exit→Act→World→Prop}
    (hQ:∀ g' W' a',Rel fr g' W' σf a'.tmps→Evo (Loc.below fr) σ.bx.length g W g' W'→σ.bx.length≤σf.bx.length→a'.defers=a.defers→Q .normal a' W'):(Code.region id ops draw).wpIn (Fn ro) n P Q a W:=by
  unfold adp at hs;split at hs
  case isFalse=>cases hs
  rename_i hok
  have hR:=h.reserve (nX ops);have hlen:σ.bx.length≤(reserve σ (nX ops)).bx.length:=by simp [reserve]
  cases draw with
  | false =>
    refine wpIn_region ?_;exact aaK hT hS hC _ g W _ a hE (Nat.le_trans hn hlen) hR hs (fun g' W' a' e1 e2 e4 e3=>hQ g' W' a' e1 (e2.weaken (fun _ h=>h) hlen) (Nat.le_trans hlen e4) e3)
  | true =>
    refine wpIn_region_any hm ?_;have hdr:Rel fr g { W with drawn:=W.drawn+1 } (reserve σ (nX ops)) a.tmps:=by
      have hev:Evo (fun _=>True) (reserve σ (nX ops)).bx.length g W g { W with drawn:=W.drawn+1 }:=⟨rfl,rfl,rfl,Nat.le_refl _,fun b o hp=>⟨hp,fun v hv=>hv⟩,fun b hb _=>⟨rfl,rfl,fun _ h=>h⟩,fun _ _ hv=>⟨hv,rfl,rfl,rfl⟩⟩;exact ⟨⟨hR.wf.pr,hR.wf.ow⟩,hR.fr.evo hev (Nat.le_refl _) (fun _ _ _=>trivial),fun l B hB=>BxR.evo hev (Nat.le_refl _) hR.wf (List.getElem?_eq_some_iff.1 hB).1 (fun _=>trivial) trivial (fun h=>h) (hR.bx l B hB),hR.top⟩
    have hev':∀ (A:Loc→Prop) nb,Evo A nb g W g { W with drawn:=W.drawn+1 }:=fun A nb=>⟨rfl,rfl,rfl,Nat.le_refl _,fun b o hp=>⟨hp,fun v hv=>hv⟩,fun b hb _=>⟨rfl,rfl,fun _ h=>h⟩,fun _ _ hv=>⟨hv,rfl,rfl,rfl⟩⟩;refine any_ok hT hS hC (by simpa using hok) ops.size _ g _ _ a (List.range ops.size) (by simp) List.pairwise_lt_range (fun i => ?_) (by simp) (fun i hi => ?_) (hE.trans (hev' _ _) hn) (Nat.le_trans hn hlen) hdr hs (fun g' W' a' e1 e2 e4 e3=>hQ g' W' a' e1 ((hev' _ _).trans (e2.weaken (fun _ h=>h) hlen) (Nat.le_refl _)) (Nat.le_trans hlen e4) e3)
    · rw [List.mem_range]
      constructor
      · exact fun hi=>⟨hi,by simp [hi]⟩
      · exact fun hi=>hi.1
    · exfalso
      by_cases hlt:i<ops.size
      · simp [hlt] at hi
      · simp [hlt] at hi
end
end
end Go.Proofs.YtcomnjodjijcmaaGreat.M

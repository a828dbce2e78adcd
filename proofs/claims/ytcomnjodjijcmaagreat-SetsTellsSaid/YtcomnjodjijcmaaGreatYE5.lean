/- Lemmas for laws of chapter 7: what the functions that they reach compute. No condition of its own. -/
import Derived.Test.YtcomnjodjijcmaaGreatYE4
import Derived.Laws.MakeOwn
import Derived.Laws.IdiomCopy
import Derived.RangeFuncRecord
namespace Go.Proofs.YtcomnjodjijcmaaGreat.M
noncomputable section
set_option linter.unusedVariables false
set_option linter.unusedSimpArgs false
open Go.RowKit Go.Proofs.YtcomnjodjijcmaaGreatW.dz Go.Proofs.YtcomnjodjijcmaaGreatW.dX
section
variable {P:Program} {T:Tb} {nb:Nat} {g:Gh} {W:World} {fr:Nat} {σ:St} {a:Act}
theorem cell_of_heap {vs:Array Value} {b:Nat} {t:TypeId} {z:Nat × Nat} (hh:W.heap[b]? = some (.cells vs t z)) (j:Nat):W.cell? ⟨b,j,none⟩=vs[j]? := by
  simp only [World.cell?,hh];simp
theorem pW {tm:List AV} {bx:List Bx} {ta:Array Value} (h:Rel fr g W ⟨tm,bx⟩ ta) {l:Nat} {e:TypeId} {k:Ty} {xs xs':List k.T} (hl:bx[l]? = some (.arr e k xs)) {b n c:Nat} (aa:g.av l=.slice (some ⟨b,0,none⟩) n c) {o:Nat} {us:List Value} (ho:o+us.length≤n*k.sz) (hlen:xs'.length=xs.length)
    (hx:∀ i x,xs'[i]? = some x→∃ vs,k.R (jW g W) x vs∧vs.length=k.sz∧∀ j v,vs[j]? = some v→(if o≤i*k.sz+j∧i*k.sz+j<o+us.length then us[i*k.sz+j - o]? else W.cell? ⟨b,i*k.sz+j,none⟩)=some v) :
    Rel fr g (W.setCells b o us) ⟨tm,bx.set l (.arr e k xs')⟩ ta∧Evo (Loc.below fr) bx.length g W g (W.setCells b o us):=by
  have hlt:l<bx.length:=(List.getElem?_eq_some_iff.1 hl).1;obtain ⟨b0,⟨A,c',q1,q2,q3⟩,⟨cs,q4⟩,q5⟩:=h.bx l _ hl;rw [aa] at q1 q4 q5;simp only [Value.slice.injEq] at q1;obtain ⟨rfl,rfl,rfl⟩:=q1;obtain ⟨hb1,hb2⟩:=q5 b rfl;obtain ⟨r1,r2,r3,r4⟩:=kW b us o W;have hev:Evo (fun ℓ=>ℓ≠.bx l) bx.length g W g (W.setCells b o us) :=
    ⟨r1,r2,r3,by rw [r4];exact Nat.le_refl _,fun b' o' hp=>⟨hp,fun v hv=>by
      have hne:b'≠b:=fun e=>hb2 o' (e ▸ hp);rw [World.cell?_of_block (jC _ _ _ _ _ hne)];exact hv⟩,fun b' hb' ho'=>⟨jC _ _ _ _ _ (fun e=>ho' (.bx l) (e ▸ hb1) rfl),rfl,fun _ h=>h⟩,fun _ _ hv=>⟨hv,rfl,rfl,rfl⟩⟩
  obtain ⟨gb,cap,cur,e1,hbase,hheap,hnc,hcm,hcs,htake⟩:∃ gb cap,∃ cur:Array Value,Value.slice (some ⟨b,0,none⟩) xs.length c=.slice (some ⟨gb,0,none⟩) xs.length cap∧0≤gb∧W.heap[gb]? = some (.cells cur e (0,0))∧xs.length≤cap∧cap≤maxLen∧cur.size=cap*k.sz∧cur.toList.take (xs.length*k.sz)=cs:=by
    rcases q4.2 with ⟨e1,_⟩ | h
    · cases e1
    · exact h
  simp only [Value.slice.injEq,Option.some.injEq,Addr.mk.injEq,true_and,and_true] at e1;obtain ⟨rfl,rfl⟩:=e1;obtain ⟨vs',c1,c2,c3⟩:=kG b e (0,0) us o W cur hheap;have hsz:xs.length*k.sz≤cur.size:=by rw [hcs];exact Nat.mul_le_mul_right _ hnc
  refine ⟨⟨⟨fun b' o' hp=>by rw [r4];exact h.wf.pr b' o' hp,fun b' ℓ hb'=>by rw [r4];exact h.wf.ow b' ℓ hb'⟩,?_,?_,?_⟩,hev.weaken (fun ℓ hb e=>by subst e;exact hb) (Nat.le_refl _)⟩
  · show FrR (bx.set l _).length _ _ _ _ _
    rw [List.length_set];exact h.fr.evo hev (Nat.le_refl _) (fun _ _ _ e=>by cases e)
  · intro l' B hB
    show BxR (bx.set l _).length _ _ _ _;rw [List.length_set];simp only [List.getElem?_set] at hB;by_cases e':l=l'
    · subst e'
      rw [if_pos rfl,if_pos hlt] at hB;cases hB;refine ⟨b0,?_,?_,?_⟩
      · rw [aa]
        refine ⟨some ⟨b,0,none⟩,c,by rw [hlen],by rw [hlen];exact q2,fun i x hi => ?_⟩;obtain ⟨vs,hR,hL,hC⟩:=hx i x hi;refine ⟨b,0,vs,rfl,k.jr hev.cp _ _ hR,hL,fun j v hv => ?_⟩;have hi':i<xs.length:=by rw [← hlen];exact (List.getElem?_eq_some_iff.1 hi).1
        have hj:j<k.sz:=by rw [← hL];exact (List.getElem?_eq_some_iff.1 hv).1
        have hlt2:i*k.sz+j<cur.size:=by
          have:(i+1)*k.sz≤xs.length*k.sz:=Nat.mul_le_mul_right _ hi';rw [Nat.add_mul] at this;omega
        have:=hC j v hv;rw [cell_of_heap hheap] at this;rw [Nat.zero_add];show (W.setCells b o us).cell? ⟨b,i*k.sz+j,none⟩=some v;rw [cell_of_heap c1,c3 _ hlt2];exact this
      · rw [aa]
        have c2':xs'.length*k.sz≤vs'.size:=by rw [c2,hlen];exact hsz
        exact ⟨vs'.toList.take (xs'.length*k.sz),by rw [List.length_take,Nat.min_eq_left (by simpa using c2')],.inr ⟨b,c,vs',by rw [hlen],Nat.zero_le _,c1,by rw [hlen];exact hnc,hcm,by rw [c2];exact hcs,rfl⟩⟩
      · rw [aa]
        exact q5
    · rw [if_neg e'] at hB
      exact BxR.evo hev (Nat.le_refl _) h.wf (List.getElem?_eq_some_iff.1 hB).1 (fun _ e2=>by cases e2) (fun e2=>e' (by injection e2 with e2;exact e2.symm)) (fun h=>h) (h.bx l' B hB)
  · intro l' hl' hv
    exact h.top l' (by simpa using hl') hv
def pX (T:Tb) (σ:St) (t:TypeId) (p x:Operand):Option St :=
  match opd T.zc σ.tm 0 p,T.sh t,opd T.zc σ.tm t x with
  | some (.pt (.one (.ae l k i off))),some (ag,n),some (.pt y)=>match σ.bx[l]? with
    | some (.arr e k' xs)=>if k'=k then (if y.isAgg=ag∧y.cells.length=n∧y.cells.all Cell.good=true∧off+n≤(k'.cells (xs.getD i k'.z)).length then
        (k'.of (splice (k'.cells (xs.getD i k'.z)) off y.cells)).map fun z=>⟨σ.tm,σ.bx.set l (.arr e k' (xs.set i z))⟩ else none) else none
    | _=>none
  | _,_,_=>none
theorem aau (hT:lX P T) (h:Rel fr g W σ a.tmps) {o:Oper} {t:TypeId} {p x:Operand} (ho:o.op=.store t p x) {σ':St} (hs:pX T σ t p x=some σ') :
    ∃ W' g',(execOp a.eval o).run P W=.ok .skip W'∧Rel fr g' W' σ' a.tmps∧Evo (Loc.below fr) σ.bx.length g W g' W'∧σ'.bx.length=σ.bx.length:=by
  unfold pX at hs;split at hs
  case h_2=>cases hs
  rename_i l k i off ag n y hp hsh hx
  split at hs
  case h_2=>cases hs
  rename_i e k' xs hb
  split at hs
  case isFalse=>cases hs
  rename_i hk
  subst hk;split at hs
  case isFalse=>cases hs
  rename_i hc
  obtain ⟨hag,hn,hgood,hoff⟩:=hc;obtain ⟨z,hz,rfl⟩:=Option.map_eq_some_iff.mp hs;obtain ⟨hl,b,n',c,ab,hi,ep⟩:=fQ h hp 0 0;obtain ⟨_,ac⟩:=hT.sh t _ _ hsh;have hpr:∀ loc,CsR σ.bx.length g W loc y.cells (a.eval x).cells.toList:=fun loc=>(vV (fun fr i=>fQ h hx fr i) loc).cells hgood;have hone:=(hpr (.tm 0 0 0)).one hgood;obtain ⟨b0,⟨A,c',q1,q2,q3⟩,⟨cs,q4⟩,q5⟩:=h.bx l _ hb;rw [ab] at q1;simp only [Value.slice.injEq] at q1;obtain ⟨rfl,rfl,rfl⟩:=q1;obtain ⟨b',o',vs,e1,hR,hL,hC⟩:=q3 i _ (List.getElem?_eq_getElem hi);simp only [Option.some.injEq,Addr.mk.injEq,and_true] at e1;obtain ⟨rfl,rfl⟩:=e1;have af:xs.getD i k'.z=xs[i]:=by rw [List.getD_eq_getElem?_getD,List.getElem?_eq_getElem hi];rfl
  rw [af] at hz hoff;have hcells:=Ty.cells_ok (nb:=σ.bx.length) (fun k=>.tm 0 0 0 k) k' _ vs hR;have aa:(a.eval x).cells.toList.length=n:=by rw [← (hpr (.tm 0 0 0)).1];exact hn
  have hoff':off+n≤k'.sz:=by rw [← hL,← hcells.1];exact hoff
  have hrow:(i+1)*k'.sz≤xs.length*k'.sz:=Nat.mul_le_mul_right _ hi;rw [Nat.add_mul,Nat.one_mul] at hrow;have hnew:k'.R (jW g W) z (splice vs off (a.eval x).cells.toList):=by
    refine Ty.aaq hz (CsR.splice hcells hpr (by rw [hn];exact hoff) (by rw [jG (by rw [aa,hL];exact hoff')]) (fun q hq=>by rw [jN (by rw [aa,hL];exact hoff')]))
  obtain ⟨k1,k2⟩:=pW (us:=(a.eval x).cells.toList) (o:=i*k'.sz+off) (xs':=xs.set i z) h hb ab (by rw [aa];omega) (by simp) (fun j w hj=>by
    rw [List.getElem?_set] at hj;by_cases e2:i=j
    · subst e2
      rw [if_pos rfl,if_pos hi] at hj;cases hj;refine ⟨_,hnew,k'.ab7 hnew,fun q v hv => ?_⟩;rw [jN (by rw [aa,hL];exact hoff')] at hv;by_cases e3:off≤q∧q<off+(a.eval x).cells.toList.length
      · rw [if_pos e3] at hv
        rw [if_pos (by omega),show i*k'.sz+q - (i*k'.sz+off)=q - off by omega];exact hv
      · rw [if_neg e3] at hv
        rw [if_neg (by omega)];have:=hC q v hv;rwa [Nat.zero_add] at this
    · rw [if_neg e2] at hj
      obtain ⟨b2,o2,vs2,e3,hR2,hL2,hC2⟩:=q3 j w hj;simp only [Option.some.injEq,Addr.mk.injEq,and_true] at e3;obtain ⟨rfl,rfl⟩:=e3;refine ⟨vs2,hR2,hL2,fun q v hv => ?_⟩;have hq:q<k'.sz:=by rw [← hL2];exact (List.getElem?_eq_some_iff.1 hv).1
      have hne:¬ (i*k'.sz+off≤j*k'.sz+q∧j*k'.sz+q<i*k'.sz+off+(a.eval x).cells.toList.length):=by
        rintro ⟨h1,h2⟩;rw [aa] at h2;rcases Nat.lt_or_gt_of_ne e2 with h3 | h3
        · have:(i+1)*k'.sz≤j*k'.sz:=Nat.mul_le_mul_right _ h3
          rw [Nat.add_mul] at this;omega
        · have:(j+1)*k'.sz≤i*k'.sz:=Nat.mul_le_mul_right _ h3
          rw [Nat.add_mul] at this;omega
      rw [if_neg hne];have:=hC2 q v hv;rwa [Nat.zero_add] at this)
  refine ⟨_,g,?_,k1,k2,by simp⟩;obtain ⟨gb,cap,cur,e1,_,hheap,hnc,_,hcs,_⟩:∃ gb cap,∃ cur:Array Value,Value.slice (some ⟨b,0,none⟩) xs.length c=.slice (some ⟨gb,0,none⟩) xs.length cap∧0≤gb∧W.heap[gb]? = some (.cells cur e (0,0))∧xs.length≤cap∧cap≤maxLen∧cur.size=cap*k'.sz∧cur.toList.take (xs.length*k'.sz)=cs:=by
    rw [ab] at q4;rcases q4.2 with ⟨e1,_⟩ | h
    · cases e1
    · exact h
  simp only [Value.slice.injEq,Option.some.injEq,Addr.mk.injEq,true_and,and_true] at e1;obtain ⟨rfl,rfl⟩:=e1;have hsz:xs.length*k'.sz≤cur.size:=by rw [hcs];exact Nat.mul_le_mul_right _ hnc
  unfold execOp;rw [ho];have:=kL (P:=P) (W:=W) (t:=t) (o:=i*k'.sz+off) (v:=a.eval x) ac (by simpa using aa) hheap (by omega) hone;simp [Sem.run_bind,ep,this]
theorem yT (hw:Wf g W) {e:TypeId} {k:Ty} {xs:List k.T} {news:List Value} (hm:xs.length≤maxLen) (hl:news.length=xs.length*k.sz) (hr:∀ i x,xs[i]? = some x→∃ vs,k.R (jW g W) x vs∧vs.length=k.sz∧∀ j v,vs[j]? = some v→news[i*k.sz+j]? = some v) (ℓ:Loc) :
    ∃ g',Wf g' (W.alloc (.cells news.toArray e))∧Evo (fun _=>True) nb g W g' (W.alloc (.cells news.toArray e))∧CR nb g' (W.alloc (.cells news.toArray e)) ℓ (.mu e k xs) (.slice (some ⟨W.heap.size,0,none⟩) xs.length xs.length)∧g'.lv=g.lv:=by
  obtain ⟨g',hg'⟩:∃ g':Gh,g'={ g with ow:=fun b=>if b=W.heap.size then some ℓ else g.ow b }:=⟨_,rfl⟩;have hev:Evo (fun _=>True) nb g W g' (W.alloc (.cells news.toArray e)):=by
    subst hg';exact ⟨rfl,rfl,rfl,by simp,fun b o hp=>⟨hp,fun v hv=>kK hv⟩,fun b hb _=>⟨Below.heap_alloc _ _ _ hb,if_neg (by omega),fun o ho=>ho⟩,fun _ _ hv=>⟨hv,rfl,rfl,rfl⟩⟩
  refine ⟨g',?_,hev,⟨⟨some ⟨W.heap.size,0,none⟩,xs.length,rfl,Nat.le_refl _,fun i x hx => ?_⟩,⟨news,hl,.inr ⟨W.heap.size,xs.length,news.toArray,rfl,Nat.zero_le _,heap_alloc_new _ _,Nat.le_refl _,hm,by simpa using hl,by rw [← hl];simp⟩⟩,fun b hb => ?_⟩,by rw [hg']⟩
  · subst hg'
    refine ⟨fun b o hp=>by have:=hw.pr b o hp;simp;omega,fun b ℓ' hb => ?_⟩;simp only at hb;split at hb
    · simp;omega
    · have:=hw.ow b ℓ' hb;simp;omega
  · obtain ⟨vs,hR,hvl,hc⟩:=hr i x hx
    refine ⟨W.heap.size,0,vs,rfl,k.jr hev.cp _ _ hR,hvl,fun j v hv => ?_⟩;rw [Nat.zero_add];have:=hc j v hv;show (W.alloc (.cells news.toArray e)).cell? _=_;rw [World.cell?_alloc_new];simpa using this
  · have:W.heap.size=b:=by simpa [Value.ownBlock] using hb
    subst this;subst hg';exact ⟨if_pos rfl,fun o ho=>by have:=hw.pr _ _ ho;omega⟩
def aav:Operand→Operand→Int→Int→Bool
  | .tmp a,.tmp b,_,_=>Nat.beq a b
  | _,_,n,m=>decide (n=m)
def mkS (T:Tb) (σ:St) (t:TypeId) (l c:Operand) (d:Nat):Option St :=
  match (opd T.zc σ.tm 0 l).bind intOf?,(opd T.zc σ.tm 0 c).bind intOf?,T.el t with
  | some n,some m,some (e,k,by')=>match (T.zc e).bind k.of with
    | some z=>if aav l c n m=true then (if 0≤n then (if n≤((140737488355328 / by':Nat):Int) then some ⟨σ.tm.set d (.pt (.one (.mu e k (List.replicate n.toNat z)))),σ.bx⟩ else none) else none) else none
    | none=>none
  | _,_,_=>none
theorem afc (hT:lX P T) (h:Rel fr g W σ a.tmps) {o:Oper} {t:TypeId} {l c:Operand} {d:Nat} (ho:o.op=.makeSlice t l c) {σ':St} (hs:mkS T σ t l c d=some σ') :
    ∃ v W' g',(execOp a.eval o).run P W=.ok (.value v) W'∧Rel fr g' W' σ' (a.put (some d) v).tmps∧Evo (Loc.below fr) σ.bx.length g W g' W'∧σ'.bx.length=σ.bx.length:=by
  unfold mkS at hs;split at hs
  case h_2=>cases hs
  rename_i n m e k by' hn hm hel
  split at hs
  case h_2=>cases hs
  rename_i z hz
  split at hs
  case isFalse=>cases hs
  rename_i hsame
  split at hs
  case isFalse=>cases hs
  rename_i h0
  split at hs
  case isFalse=>cases hs
  rename_i hle
  cases hs
  have int:∀ {x:Operand} {q:Int},(opd T.zc σ.tm 0 x).bind intOf? = some q→∃ kk,a.eval x=.int kk q:=fun {x q} hq=>by
    obtain ⟨y,hy,hy2⟩:=Option.bind_eq_some_iff.mp hq;unfold intOf? at hy2;split at hy2
    · cases hy2;exact ⟨_,(fQ h hy 0 0).1⟩
    · cases hy2
  obtain ⟨kl,el⟩:=int hn;obtain ⟨kc,ec⟩:=int hm;have hnm:n=m:=by
    unfold aav at hsame;split at hsame
    · rename_i x y _ _
      obtain rfl:=Nat.eq_of_beq_eq_true hsame;rw [hn] at hm;exact Option.some.inj hm
    · simpa using hsame
  subst hnm;obtain ⟨ac,hz1,hz2⟩:=Option.bind_eq_some_iff.mp hz;obtain ⟨zv,hzi,hzc,_⟩:=hT.zc e ac hz1;have ab:∀ g W,k.R (jW g W) z zv.cells.toList:=fun g W=>Ty.aaq (nb:=0) hz2 (hzc 0 g W (fun k=>.tm 0 0 0 k));obtain ⟨hu,i,z',hi,hz',hsz,hby,hzs,hb0⟩:=hT.el t e k by' hel
  obtain ⟨q,hq1,hq2⟩:=Option.map_eq_some_iff.mp hzi;rw [hi] at hq1;cases hq1;rw [hz'] at hq2;cases hq2;have hpos:=k.oF;have hbytes:n.toNat*by'≤140737488355328:=by
    have:n.toNat≤140737488355328 / by':=by omega
    exact Nat.le_trans (Nat.mul_le_mul_right _ this) (Nat.div_mul_le_self _ _)
  have hmax:n.toNat≤140737488355328:=Nat.le_trans (Nat.le_mul_of_pos_right _ hb0) hbytes;have hrun:=run_make (P:=P) W t e i zv hu hi hz' kl kc n n h0 (Int.le_refl _) (by
    rw [hby];have:((n.toNat*by':Nat):Int)≤140737488355328:=Int.ofNat_le.2 hbytes;rw [Int.natCast_mul,Int.toNat_of_nonneg h0,Int.mul_comm] at this;omega) (by omega)
  have aa:(madeCells zv.cells (n.toNat*i.size)).toList.length=(List.replicate n.toNat z).length*k.sz:=by rw [Array.length_toList,size_madeCells,hsz,List.length_replicate]
  obtain ⟨g',hwf,hev,hcr,hlv⟩:=yT (nb:=σ.bx.length) h.wf (e:=e) (k:=k) (xs:=List.replicate n.toNat z) (news:=(madeCells zv.cells (n.toNat*i.size)).toList) (by simp only [List.length_replicate,maxLen];omega) aa (fun q x hx=>by
    rw [List.getElem?_replicate] at hx;split at hx
    case isFalse=>cases hx
    rename_i hq
    cases hx
    refine ⟨_,ab g W,k.ab7 (ab g W),fun j v hv => ?_⟩;have hj:j<k.sz:=by rw [← hzs];simpa using (List.getElem?_eq_some_iff.1 hv).1
    have hlt:q*k.sz+j<n.toNat*k.sz:=by
      have:(q+1)*k.sz≤n.toNat*k.sz:=Nat.mul_le_mul_right _ hq;rw [Nat.add_mul] at this;omega
    have hmod:(q*k.sz+j) % k.sz=j:=by rw [Nat.add_comm,Nat.add_mul_mod_self_right,Nat.mod_eq_of_lt hj]
    rw [Array.getElem?_toList,madeCells,Array.getElem?_map,Array.getElem?_range,if_pos (by rw [hsz];exact hlt),Option.map_some,hzs,hmod];have hj2:j<zv.cells.size:=by rw [hzs];exact hj
    have:zv.cells[j]? = some v:=by simpa using hv
    rw [getElem!_pos zv.cells j hj2];rw [Array.getElem?_eq_getElem hj2] at this;exact this) (.tm fr d 0 0)
  refine ⟨.slice (some ⟨W.heap.size,0,none⟩) n.toNat n.toNat,_,g',?_,⟨hwf,?_,?_,fun l hl hv=>h.top l hl (by rw [← hlv];exact hv)⟩,hev.weaken (fun _ _=>trivial) (Nat.le_refl _),rfl⟩
  · unfold execOp
    rw [ho];simp [Sem.run_bind,el,ec,hrun]
  · refine FrR.put (d:=some d) (h.fr.evo hev (Nat.le_refl _) (fun _ _ _=>trivial)) (fun d' e'=>by
      cases e'
      have:=hcr;rw [List.length_replicate] at this;exact this)
  · exact fun l B hB=>BxR.evo hev (Nat.le_refl _) h.wf (List.getElem?_eq_some_iff.1 hB).1 (fun _=>trivial) trivial (fun hv=>by rw [← hlv];exact hv) (h.bx l B hB)
theorem vW (dT sT ty elem:TypeId) (b dLen dCap:Nat) (ad:Addr) (sLen sCap:Nat) (cs:List Value) (n k:Nat)
    (hu:P.underlying dT=some (.slice elem)) (hs:(P.info? elem).map (·.size)=some k) (hn:n=Nat.min sLen dLen) (hl:cs.length=n*k)
    (hsrc:∀ j v,cs[j]? = some v→W.cell? (ad.add j)=some v) (hc:∀ j,j<cs.length→(W.cell? ⟨b,0+0+j,none⟩).isSome=true) (hf:∀ j,j<cs.length→W.frozen? ⟨b,0+0+j,none⟩=false) (h1:∀ v∈cs,v.oneCell'=true) :
    (Builtin.copy_ #[dT,sT] ty #[.slice (some ⟨b,0,none⟩) dLen dCap,.slice (some ad) sLen sCap]).run P W=.ok (goInt n) (W.setCells b 0 cs):=by
  have hld:=run_loadCells_list (P:=P) W ad cs hsrc;have hst:=run_storeCells_cells (P:=P) b 0 cs 0 W hc hf h1;cases hq:P.info? elem with
  | none=>simp [hq] at hs
  | some i =>
    have hi:i.size=k:=by simpa [hq] using hs
    rw [hl] at hld;simp [Builtin.copy_,run_underlying hu,Builtin.lenOf,Builtin.firstCells,sizeOf,typeInfo,hq,hi,← hn,hld,hst]
theorem yU (dT sT ty elem:TypeId) (d ad:Option Addr) (dLen dCap sLen sCap:Nat) (hu:P.underlying dT=some (.slice elem)) (hs:(P.info? elem).isSome=true) (hn:Nat.min sLen dLen=0) :
    (Builtin.copy_ #[dT,sT] ty #[.slice d dLen dCap,.slice ad sLen sCap]).run P W=.ok (goInt 0) W:=by
  cases hq:P.info? elem with
  | none=>simp [hq] at hs
  | some i =>
    have hl:∀ (x:Addr),(loadCells x 0).run P W=.ok #[] W:=fun x=>by simpa using run_loadCells_list (P:=P) W x [] (by simp)
    cases d <;> cases ad <;> simp [Builtin.copy_,run_underlying hu,Builtin.lenOf,Builtin.firstCells,sizeOf,typeInfo,hq,hn,storeCells,hl]
def yV (T:Tb) (σ:St) (c:Call) (d:Option Nat):Option St :=
  match c.callee,c.args.toList,c.argTypes.toList with
  | .builtin .copy,[x,y],[t,t']=>match opd T.zc σ.tm 0 x,(opd T.zc σ.tm 0 y).bind slOf?,T.el t with
    | some (.pt (.one (.ar l k n))),some ⟨k2,ys⟩,some (e0,k0,_)=>match σ.bx[l]? with
      | some (.arr e k' xs)=>if k0=k'∧k'=k then (if h:k2=k' then some ⟨put σ.tm d (.pt (.one (.v (.int .i64 ((Nat.min ys.length xs.length:Nat):Int))))),σ.bx.set l (.arr e k' ((h ▸ ys).take xs.length++xs.drop ys.length))⟩ else none) else none
      | _=>none
    | _,_,_=>none
  | _,_,_=>none
theorem acn (hT:lX P T) (h:Rel fr g W σ a.tmps) {o:Oper} {c:Call} {d:Option Nat} (ho:o.op=.call c) {σ':St} (hs:yV T σ c d=some σ') :
    ∃ v W' g',(execOp a.eval o).run P W=.ok (.value v) W'∧Rel fr g' W' σ' (a.put d v).tmps∧Evo (Loc.below fr) σ.bx.length g W g' W'∧σ'.bx.length=σ.bx.length:=by
  unfold yV at hs;split at hs
  case h_2=>cases hs
  rename_i x y t t' hcal hargs hts
  split at hs
  case h_2=>cases hs
  rename_i l k n k2 ys e0 k0 by' hx hy hel
  split at hs
  case h_2=>cases hs
  rename_i e k' xs hb
  split at hs
  case isFalse=>cases hs
  rename_i hk
  obtain ⟨rfl,rfl⟩:=hk;split at hs
  case isFalse=>cases hs
  rename_i hk2
  subst hk2;cases hs;obtain ⟨hl,ex,A0,c0,aa,hnc,ac⟩:=fQ h hx 0 0;obtain ⟨y',hy1,hy2⟩:=Option.bind_eq_some_iff.mp hy;obtain ⟨B,cB,ey,hcB,ab⟩:=vT (fQ h hy1 0 0) hy2;obtain ⟨b0,⟨A,c',q1,q2,q3⟩,⟨cs,q4⟩,q5⟩:=h.bx l _ hb;rw [aa] at q1;simp only [Value.slice.injEq] at q1;obtain ⟨rfl,rfl,rfl⟩:=q1;obtain ⟨hu,i,z,hi,hz,hsz,_⟩:=hT.el t _ _ _ hel;have hex:(execOp a.eval o).run P W=((Builtin.copy_ #[t,t'] o.type #[.slice A0 xs.length c0,.slice B ys.length cB]).run P W).andThen fun v w=>.ok (.value v) w:=by
    obtain ⟨cal,⟨args⟩,⟨ats⟩⟩:=c;try simp only at hcal hargs hts
    subst hcal;subst hargs;subst hts;unfold execOp;rw [ho];simp [resolve,invoke,builtin,Sem.run_bind,ex,aa,ey]
  have hput:∀ {g':Gh} {W':World} {bx':List Bx} {v:Int},Rel fr g' W' ⟨σ.tm,bx'⟩ a.tmps→Rel fr g' W' ⟨put σ.tm d (.pt (.one (.v (.int .i64 v)))),bx'⟩ (a.put d (.int .i64 v)).tmps:=fun hr=>Rel.put (σ:=⟨σ.tm,_⟩) hr (fun _ _=>⟨rfl,rfl⟩);by_cases hz0:Nat.min ys.length xs.length=0
  · have hsame:ys.take xs.length++xs.drop ys.length=xs:=by
      rcases Nat.eq_zero_or_pos ys.length with h1 | h1
      · rw [List.eq_nil_of_length_eq_zero h1];simp
      · have h2:xs.length=0:=by
          have:min ys.length xs.length=0:=hz0;omega
        rw [List.eq_nil_of_length_eq_zero h2];simp
    refine ⟨.int .i64 0,W,g,?_,?_,Evo.refl _ _ _ _,by simp⟩
    · rw [hex,yU t t' o.type _ A0 B xs.length c0 ys.length cB hu (by rw [hi];rfl) hz0]
      simp [goInt]
    · rw [hsame,set_self hb,hz0]
      exact hput h
  · have hmin:0<min ys.length xs.length:=Nat.pos_of_ne_zero hz0
    obtain ⟨b,rfl⟩:=ac (by omega);obtain ⟨gb,cap,cur,e1,_,hheap,hnc',_,hcs,_⟩:∃ gb cap,∃ cur:Array Value,Value.slice (some ⟨b,0,none⟩) xs.length c0=.slice (some ⟨gb,0,none⟩) xs.length cap∧0≤gb∧W.heap[gb]? = some (.cells cur e (0,0))∧xs.length≤cap∧cap≤maxLen∧cur.size=cap*k2.sz∧cur.toList.take (xs.length*k2.sz)=cs:=by
      rw [aa] at q4;rcases q4.2 with ⟨e1,_⟩ | h
      · cases e1
      · exact h
    simp only [Value.slice.injEq,Option.some.injEq,Addr.mk.injEq,true_and,and_true] at e1;obtain ⟨rfl,rfl⟩:=e1;have hB:∃ ad,B=some ad:=by
      obtain ⟨b',o',vs,e1,_⟩:=ab 0 _ (List.getElem?_eq_getElem (by omega));exact ⟨_,e1⟩
    obtain ⟨ad,rfl⟩:=hB;obtain ⟨news,n1,n2,n3⟩:=ab.news k2.oF;have hpos:=k2.oF;have hle1:min ys.length xs.length*k2.sz≤ys.length*k2.sz:=Nat.mul_le_mul_right _ (Nat.min_le_left _ _);have hle2:min ys.length xs.length*k2.sz≤xs.length*k2.sz:=Nat.mul_le_mul_right _ (Nat.min_le_right _ _);have hle3:xs.length*k2.sz≤cur.size:=by rw [hcs];exact Nat.mul_le_mul_right _ hnc'
    have hlen:(news.take (min ys.length xs.length*k2.sz)).length=min ys.length xs.length*k2.sz:=by rw [List.length_take,n1];omega
    have hrun:=vW (P:=P) (W:=W) t t' o.type _ b xs.length c0 ad ys.length cB (news.take (min ys.length xs.length*k2.sz)) (min ys.length xs.length) k2.sz hu (by rw [hi];exact congrArg some hsz) rfl hlen (fun j v hv=>by
      rw [List.getElem?_take] at hv;split at hv
      · exact n2 j v hv
      · cases hv) (fun j hj=>by
      rw [hlen] at hj;rw [show 0+0+j=j by omega,cell_of_heap hheap];simp;omega) (fun j hj=>by simp [World.frozen?,hheap]) (fun v hv=>xC n1 n3 v (List.mem_of_mem_take hv))
    obtain ⟨k1,k2⟩:=pW (us:=news.take (min ys.length xs.length*k2.sz)) (o:=0) (xs':=ys.take xs.length++xs.drop ys.length) h hb aa (by rw [hlen];omega) (by simp;omega) (fun j w hj=>by
      rw [hlen,Nat.zero_add];rw [List.getElem?_append] at hj;split at hj
      · rename_i hj1
        have hj2:j<min ys.length xs.length:=by simpa [Nat.min_comm] using hj1
        rw [List.getElem?_take,if_pos (by omega)] at hj;obtain ⟨vs,hR,hL,hC⟩:=n3 j w hj;refine ⟨vs,hR,hL,fun q v hv => ?_⟩;have hq:q<k2.sz:=by rw [← hL];exact (List.getElem?_eq_some_iff.1 hv).1
        have:(j+1)*k2.sz≤min ys.length xs.length*k2.sz:=Nat.mul_le_mul_right _ hj2;rw [Nat.add_mul] at this;rw [if_pos (by omega),List.getElem?_take,if_pos (by omega),Nat.sub_zero];exact hC q v hv
      · rename_i hj1
        have hj2:min ys.length xs.length≤j:=by
          have:¬ j<min xs.length ys.length:=by simpa using hj1
          omega
        rw [List.length_take,List.getElem?_drop] at hj;have hlt:=(List.getElem?_eq_some_iff.1 hj).1;have ej:ys.length+(j - min xs.length ys.length)=j:=by omega
        rw [ej] at hj;obtain ⟨b',o',vs,e1,hR,hL,hC⟩:=q3 j w hj;simp only [Option.some.injEq,Addr.mk.injEq,and_true] at e1;obtain ⟨rfl,rfl⟩:=e1;refine ⟨vs,hR,hL,fun q v hv => ?_⟩;have:min ys.length xs.length*k2.sz≤j*k2.sz:=Nat.mul_le_mul_right _ hj2;rw [if_neg (by omega)];have:=hC q v hv;rwa [Nat.zero_add] at this)
    refine ⟨.int .i64 ((min ys.length xs.length:Nat):Int),_,g,?_,hput k1,k2,by simp⟩;rw [hex,hrun];simp [goInt]
theorem Rel.ahQ (h:Rel fr g W σ a.tmps) {l:Nat} (hl:σ.bx[l]? = some .no) {ob:Obj} {B:Bx} {c:Cell} {v:Value} (hB:∀ (g':Gh),g'.bx l=W.heap.size→g'.lv l→g'.ow W.heap.size=some (.bx l)→(∀ o,¬ g'.pr W.heap.size o)→BxR σ.bx.length g' (W.alloc ob) l B∧∀ ℓ,CR σ.bx.length g' (W.alloc ob) ℓ c v) (d:Option Nat) :
    ∃ g',Rel fr g' (W.alloc ob) ⟨M.put σ.tm d (.pt (.one c)),σ.bx.set l B⟩ (a.put d v).tmps∧Evo (fun _=>True) σ.bx.length g W g' (W.alloc ob):=by
  have hlv:¬ g.lv l:=h.bx l _ hl;have hlt:l<σ.bx.length:=(List.getElem?_eq_some_iff.1 hl).1;have hev:Evo (fun _=>True) σ.bx.length g W (g.var l W.heap.size (g.lr l)) (W.alloc ob):=Evo.var h.wf hlv _;have hbl:(g.var l W.heap.size (g.lr l)).bx l=W.heap.size:=by show (if l=l then _ else _)=_;rw [if_pos rfl]
  obtain ⟨hb1,hb2⟩:=hB (g.var l W.heap.size (g.lr l)) hbl (.inl rfl) (by show (if W.heap.size=W.heap.size then _ else _)=_;rw [if_pos rfl]) (fun o ho=>by have:=h.wf.pr _ _ ho;omega);refine ⟨g.var l W.heap.size (g.lr l),⟨h.wf.var,?_,?_,?_⟩,hev⟩
  · show FrR (σ.bx.set l B).length _ _ _ _ _
    rw [List.length_set];exact (h.fr.evo hev (Nat.le_refl _) (fun _ _ _=>trivial)).put (fun d' e=>hb2 _)
  · intro l' B' hB'
    show BxR (σ.bx.set l B).length _ _ _ _;rw [List.length_set];simp only [List.getElem?_set] at hB';by_cases e:l=l'
    · subst e
      rw [if_pos rfl,if_pos hlt] at hB';cases hB';exact hb1
    · rw [if_neg e] at hB'
      exact BxR.evo hev (Nat.le_refl _) h.wf (List.getElem?_eq_some_iff.1 hB').1 (fun _=>trivial) trivial (fun hv=>hv.resolve_left (fun e'=>e e'.symm)) (h.bx l' B' hB')
  · intro l' hl' hv
    simp only [List.length_set] at hl';rcases hv with rfl | hv
    · omega
    · exact h.top l' hl' hv
def ado (T:Tb) (l:Nat) (σ:St) (t:TypeId) (d:Nat):Option St :=
  match T.mp t,σ.bx[l]? with
  | some _,some .no=>some ⟨σ.tm.set d (.pt (.one (.mh l))),σ.bx.set l (.mi [])⟩
  | _,_=>none
theorem ad1 (h:Rel fr g W σ a.tmps) {l:Nat} {o:Oper} {t:TypeId} {d:Nat} (ho:o.op=.makeMap t none) {σ':St} (hs:ado T l σ t d=some σ') :
    ∃ v W' g',(execOp a.eval o).run P W=.ok (.value v) W'∧Rel fr g' W' σ' (a.put (some d) v).tmps∧Evo (Loc.below fr) σ.bx.length g W g' W'∧σ'.bx.length=σ.bx.length:=by
  unfold ado at hs;split at hs
  case h_2=>cases hs
  rename_i hl
  cases hs
  obtain ⟨g',h1,h2⟩:=h.ahQ hl (ob:=.map #[] 0) (B:=.mi []) (c:=.mh l) (v:=.map (some W.heap.size)) (fun g' e1 e2 e3 e4=>⟨⟨e2,by rw [e1];exact e3,by rw [e1];exact e4,#[],0,by rw [e1];exact heap_alloc_new _ _,rfl⟩,fun ℓ=>⟨⟨(List.getElem?_eq_some_iff.1 hl).1,e2⟩,by rw [e1]⟩⟩) (some d);refine ⟨_,_,g',?_,h1,h2.weaken (fun _ _=>trivial) (Nat.le_refl _),by simp⟩;unfold execOp;rw [ho];rfl
theorem oG {W:World} {b:Nat} {o:Obj} {k:Nat} (h:k≠b):(W.putObj b o).heap[k]? = W.heap[k]? := World.putObj_heap_other h
theorem aaw {tm:List AV} {bx:List Bx} {ta:Array Value} (h:Rel fr g W ⟨tm,bx⟩ ta) {l:Nat} {xs xs':List (Int × Int)} (hl:bx[l]? = some (.mi xs)) {es:Array MapEntry} {ck:Nat} (hes:es.toList.map (fun e=>(e.key,e.val))=xs'.map fun p=>(Value.int .i64 p.1,Value.int .i64 p.2)) :
    Rel fr g (W.putObj (g.bx l) (.map es ck)) ⟨tm,bx.set l (.mi xs')⟩ ta∧Evo (Loc.below fr) bx.length g W g (W.putObj (g.bx l) (.map es ck)):=by
  have hlt:l<bx.length:=(List.getElem?_eq_some_iff.1 hl).1;obtain ⟨b0,b1,b2,es0,aa,b3,b4⟩:=h.bx l _ hl;have hev:Evo (fun ℓ=>ℓ≠.bx l) bx.length g W g (W.putObj (g.bx l) (.map es ck)) :=
    ⟨rfl,rfl,rfl,by rw [World.putObj_size];exact Nat.le_refl _,fun b o hp=>⟨hp,fun v hv=>by
      have hne:b≠g.bx l:=fun e=>b2 o (e ▸ hp);rw [World.cell?_of_block (oG hne)];exact hv⟩,fun b hb ho=>⟨oG (fun e=>ho (.bx l) (e ▸ b1) rfl),rfl,fun _ h=>h⟩,fun _ _ hv=>⟨hv,rfl,rfl,rfl⟩⟩
  refine ⟨⟨⟨fun b o hp=>by rw [World.putObj_size];exact h.wf.pr b o hp,fun b ℓ hb=>by rw [World.putObj_size];exact h.wf.ow b ℓ hb⟩,?_,?_,?_⟩,hev.weaken (fun ℓ hb e=>by subst e;exact hb) (Nat.le_refl _)⟩
  · show FrR (bx.set l _).length _ _ _ _ _
    rw [List.length_set];exact h.fr.evo hev (Nat.le_refl _) (fun _ _ _ e=>by cases e)
  · intro l' B hB
    show BxR (bx.set l _).length _ _ _ _;rw [List.length_set];simp only [List.getElem?_set] at hB;by_cases e:l=l'
    · subst e
      rw [if_pos rfl,if_pos hlt] at hB;cases hB;exact ⟨b0,b1,b2,es,ck,World.putObj_heap_same (h.wf.ow _ _ b1),hes⟩
    · rw [if_neg e] at hB
      exact BxR.evo hev (Nat.le_refl _) h.wf (List.getElem?_eq_some_iff.1 hB).1 (fun _ e'=>by cases e') (fun e'=>e (by injection e' with e';exact e'.symm)) (fun h=>h) (h.bx l' B hB)
  · intro l' hl' hv
    exact h.top l' (by simpa using hl') hv
theorem xG {y v:Int}:∀ {xs:List (Int × Int)},(∀ p∈xs,p.1≠y)→zU xs y v=xs++[(y,v)]
  | [],_=>rfl
  | (p1,p2) :: r,h=>by
    have h1:p1≠y:=h (p1,p2) List.mem_cons_self;simp only [zU,if_neg h1,List.cons_append];rw [xG (fun p hp=>h p (List.mem_cons_of_mem _ hp))]
def afd (T:Tb) (σ:St) (t:TypeId) (m k x:Operand):Option St :=
  match opd T.zc σ.tm 0 m,opd T.zc σ.tm 0 k,opd T.zc σ.tm 0 x,T.mp t with
  | some (.pt (.one (.mh l))),some (.pt (.one (.v (.int .i64 y)))),some (.pt (.one (.v (.int .i64 v)))),some _=>match σ.bx[l]? with
    | some (.mi xs)=>some ⟨σ.tm,σ.bx.set l (.mi (zU xs y v))⟩
    | _=>none
  | _,_,_,_=>none
theorem ad2 (hT:lX P T) (h:Rel fr g W σ a.tmps) {o:Oper} {t:TypeId} {m k x:Operand} (ho:o.op=.mapUpdate t m k x) {σ':St} (hs:afd T σ t m k x=some σ') :
    ∃ W' g',(execOp a.eval o).run P W=.ok .skip W'∧Rel fr g' W' σ' a.tmps∧Evo (Loc.below fr) σ.bx.length g W g' W'∧σ'.bx.length=σ.bx.length:=by
  unfold afd at hs;split at hs
  case h_2=>cases hs
  rename_i l y v r hm hk hx hmp
  split at hs
  case h_2=>cases hs
  rename_i xs hb
  cases hs
  obtain ⟨kt,et⟩:=r;obtain ⟨hl,em⟩:(l<σ.bx.length∧g.lv l)∧a.eval m=.map (some (g.bx l)):=fQ h hm 0 0;have ek:a.eval k=.int .i64 y:=(fQ h hk 0 0).1;have ex:a.eval x=.int .i64 v:=(fQ h hx 0 0).1;obtain ⟨b0,b1,b2,es,ck,hh,hes⟩:=h.bx l _ hb;obtain ⟨hu,hkt,_⟩:=hT.mp t kt et hmp;have hck:∀ b,(Instr.checkKey b 10000 kt (.int .i64 y)).run P W=.ok () W:=fun b=>by
    rw [show (10000:Nat)=9999+1 from rfl,Instr.checkKey];simp only [Sem.run_bind,run_underlying hkt,Result.andThen_ok,Sem.run_pure]
  have hst:(Instr.keyThatStays (.int .i64 y) (.int .i64 y)).run P W=.ok (.int .i64 y) W:=by
    unfold Instr.keyThatStays;rw [show (10000:Nat)=9999+1 from rfl,Instr.sameBits];simp
  have hlen:es.toList.length=xs.length:=by have:=congrArg List.length hes;simpa using this
  have fin:∀ (es':Array MapEntry) (aa:Nat),(Instr.mapUpdate t (.map (some (g.bx l))) (.int .i64 y) (.int .i64 v)).run P W=.ok () (W.putObj (g.bx l) (.map es' aa))→es'.toList.map (fun e=>(e.key,e.val))=(zU xs y v).map (fun p=>(Value.int .i64 p.1,Value.int .i64 p.2)) →
      ∃ W' g',(execOp a.eval o).run P W=.ok .skip W'∧Rel fr g' W' ⟨σ.tm,σ.bx.set l (.mi (zU xs y v))⟩ a.tmps∧Evo (Loc.below fr) σ.bx.length g W g' W'∧(σ.bx.set l (.mi (zU xs y v))).length=σ.bx.length:=fun es' aa hr he=>by
    obtain ⟨k1,k2⟩:=aaw (xs':=zU xs y v) (ck:=aa) h hb he;refine ⟨_,g,?_,k1,k2,by simp⟩;unfold execOp;rw [ho];simp only [em,ek,ex,Sem.run_bind,hr,Result.andThen_ok,Sem.run_pure]
  rcases nS (kd:=.i64) (k:=y) 0 hes with ⟨q1,q2,q3⟩ | ⟨j,e',q1,q2,q3,q4⟩
  · have hf:(Instr.findKey kt (.int .i64 y) es.toList).run P W=.ok none W:=by simp [Instr.findKey,Sem.run_bind,run_underlying hkt,q1]
    refine fin (es.push { key:=.int .i64 y,val:=.int .i64 v,born:=ck }) (ck+1) ?_ ?_
    · unfold Instr.mapUpdate
      simp only [Sem.run_bind,run_underlying hu,Result.andThen_ok,j4 hh,Sem.run_pure,hck,hf];simp only [setObj,Sem.run,hh];rfl
    · have:zU xs y v=xs++[(y,v)]:=xG q2
      rw [this];simp [hes]
  · have hf:(Instr.findKey kt (.int .i64 y) es.toList).run P W=.ok (some (0+j,.int .i64 (aan xs y))) W:=by simp [Instr.findKey,Sem.run_bind,run_underlying hkt,q1]
    have hj:es[j]? = some e':=by simpa using q2
    refine fin (es.modify (0+j) fun e=>{ e with key:=.int .i64 y,val:=.int .i64 v }) ck ?_ ?_
    · unfold Instr.mapUpdate
      simp only [Sem.run_bind,run_underlying hu,Result.andThen_ok,j4 hh,Sem.run_pure,hck,hf];have e1:(((es[0+j]?).map (·.key)).getD (.int .i64 y))=.int .i64 y:=by rw [Nat.zero_add,hj];exact q3
      simp only [Sem.run_bind,e1,hst,Result.andThen_ok];simp only [setObj,Sem.run,hh];rfl
    · rw [q4 v,Nat.zero_add]
      apply List.ext_getElem?
      intro q;have hq:=congrArg (fun l=>l[q]?) hes;simp only [List.getElem?_map] at hq;rw [List.getElem?_map,List.getElem?_map,Array.getElem?_toList,Array.getElem?_modify,List.getElem?_set];by_cases e:j=q
      · subst e
        have hlt:j<xs.length:=by rw [← hlen];exact (List.getElem?_eq_some_iff.1 q2).1
        rw [if_pos rfl,if_pos rfl,if_pos hlt,hj];rfl
      · rw [if_neg e,if_neg e]
        simpa using hq
end
end
end Go.Proofs.YtcomnjodjijcmaaGreat.M
namespace Go.Proofs.YtcomnjodjijcmaaGreat.M
noncomputable section
set_option linter.unusedVariables false
set_option linter.unusedSimpArgs false
open Go.RowKit Go.Proofs.YtcomnjodjijcmaaGreatW.dz Go.Proofs.YtcomnjodjijcmaaGreatW.dX
section
variable {P:Program} {T:Tb} {nb:Nat} {g:Gh} {W:World} {fr:Nat} {σ:St} {a:Act}
def nA (T:Tb) (l:Nat) (σ:St) (t:TypeId) (d:Nat):Option St :=
  match T.zc t,σ.bx[l]? with
  | some cs,some .no=>some ⟨σ.tm.set d (.pt (.one (.bp l 0))),σ.bx.set l (.box t cs)⟩
  | _,_=>none
def abW (T:Tb) (l:Nat) (σ:St) (t:TypeId) (x:Operand) (d:Nat):Option St :=
  match opd T.zc σ.tm t x,σ.bx[l]? with
  | some (.pt p),some .no=>if p.cells.all Cell.good=true then some ⟨σ.tm.set d (.pt (.one (.bp l 0))),σ.bx.set l (.box t p.cells)⟩ else none
  | _,_=>none
def quiet (T:Tb) (σ:St) (o:Oper):Option St:=(val T σ.tm σ.bx o).map fun x=>⟨put σ.tm o.dst x,σ.bx⟩
def Call.xH (c:Call):Bool:=match c.callee with
  | .builtin .append=>true
  | _=>false
def Call.uw (c:Call):Bool:=match c.callee with
  | .builtin .copy=>true
  | _=>false
def lD (T:Tb) (l:Nat) (σ:St) (o:Oper):Option St :=
  match o.op,o.dst with
  | .makeSlice t n c,some d=>mkS T σ t n c d
  | .makeMap t none,some d=>ado T l σ t d
  | .mapUpdate t m k x,none=>afd T σ t m k x
  | .call c,d=>yV T σ c d
  | _,_=>none
def qY (T:Tb) (σ:St) (t:TypeId) (p x:Operand):Option St:=match opd T.zc σ.tm 0 p with
  | some (.pt (.one (.ae _ _ _ _)))=>pX T σ t p x
  | _=>pU T σ t p x
def step (T:Tb) (mv:Nat→Bool) (l:Nat) (σ:St) (o:Oper):Option St :=
  match o.op,o.dst with
  | .assign (.tmp s),some d=>moveA σ s d
  | .move (.tmp s),some d=>if mv d then moveA σ s d else quiet T σ o
  | .extract (.tmp s) i,some d=>if mv d then (if s=d then none else moveB σ s i d) else quiet T σ o
  | .load t x,some d=>if mv d then uq T σ t x d else quiet T σ o
  | .store t p x,none=>qY T σ t p x
  | .alloc t,some d=>nA T l σ t d
  | .box t x,some d=>abW T l σ t x d
  | .buildSlice t n parts,some d=>qX T σ t n parts.toList d
  | .call c,some d=>if Call.xH c then ko T σ c d else if Call.uw c then lD T l σ o else quiet T σ o
  | .call c,none=>if Call.uw c then lD T l σ o else quiet T σ o
  | .makeSlice _ _ _,_=>lD T l σ o
  | .makeMap _ _,_=>lD T l σ o
  | .mapUpdate _ _ _ _,_=>lD T l σ o
  | _,_=>quiet T σ o
def xI (P:Program) (fr:Nat) (g:Gh) (W:World) (σ:St) (a:Act) (o:Oper) (σ':St):Prop :=
  ∃ n v W' g',(execOp a.eval o).run P W=.ok n W'∧(n=.value v∨(n=.skip∧v=undef))∧Rel fr g' W' σ' (a.put o.dst v).tmps∧Evo (Loc.below fr) σ.bx.length g W g' W'∧σ'.bx.length=σ.bx.length
theorem lZ (hT:lX P T) (h:Rel fr g W σ a.tmps) {o:Oper} {σ':St} (hs:quiet T σ o=some σ'):xI P fr g W σ a o σ':=by
  obtain ⟨x,hx,rfl⟩:=Option.map_eq_some_iff.mp hs;obtain ⟨v,hr,hv⟩:=val_ok hT h hx;exact ⟨_,v,W,g,hr,.inl rfl,h.put (fun d' _=>hv fr d'),Evo.refl _ _ _ _,rfl⟩
theorem qZ {t:TypeId} {v:Value}:(newVar t v).run P W=.ok ⟨W.heap.size,0,none⟩ (W.alloc (.cells v.cells t)):=by
  simp [newVar,newRow]
theorem nC (hT:lX P T) (h:Rel fr g W σ a.tmps) {l:Nat} {o:Oper} {σ':St} (hs:lD T l σ o=some σ'):xI P fr g W σ a o σ':=by
  unfold lD at hs;split at hs
  · rename_i t n c d ho hd
    obtain ⟨v,W',g',h1,h2,h3,h4⟩:=afc hT h ho hs;exact ⟨_,v,W',g',h1,.inl rfl,by rw [hd];exact h2,h3,h4⟩
  · rename_i t d ho hd
    obtain ⟨v,W',g',h1,h2,h3,h4⟩:=ad1 h ho hs;exact ⟨_,v,W',g',h1,.inl rfl,by rw [hd];exact h2,h3,h4⟩
  · rename_i t m k x ho hd
    obtain ⟨W',g',h1,h2,h3,h4⟩:=ad2 hT h ho hs;exact ⟨_,undef,W',g',h1,.inr ⟨rfl,rfl⟩,by rw [hd];exact h2,h3,h4⟩
  · rename_i c ho
    obtain ⟨v,W',g',h1,h2,h3,h4⟩:=acn hT h ho hs;exact ⟨_,v,W',g',h1,.inl rfl,h2,h3,h4⟩
  · cases hs
theorem step_ok (hT:lX P T) (h:Rel fr g W σ a.tmps) {mv:Nat→Bool} {l:Nat} {o:Oper} {σ':St} (hs:step T mv l σ o=some σ'):xI P fr g W σ a o σ':=by
  unfold step at hs;split at hs
  · rename_i s d ho hd
    obtain ⟨g',h1,h2,h3⟩:=xA h hs;exact ⟨_,a.eval (.tmp s),W,g',by unfold execOp;rw [ho];rfl,.inl rfl,by rw [hd];exact h1,h2,by rw [h3]⟩
  · rename_i s d ho hd
    split at hs
    · obtain ⟨g',h1,h2,h3⟩:=xA h hs
      exact ⟨_,a.eval (.tmp s),W,g',by unfold execOp;rw [ho];rfl,.inl rfl,by rw [hd];exact h1,h2,by rw [h3]⟩
    · exact lZ hT h hs
  · rename_i s i d ho hd
    split at hs
    case isFalse=>exact lZ hT h hs
    split at hs
    · cases hs
    · rename_i hsd
      obtain ⟨vs,v,g',e1,e2,h1,h2,h3⟩:=acf h hsd hs;refine ⟨_,v,W,g',?_,.inl rfl,by rw [hd];exact h1,h2,by rw [h3]⟩;unfold execOp;rw [ho];simp [Sem.run_bind,e1,Instr.extract,e2]
  · rename_i t x d ho hd
    split at hs
    · obtain ⟨v,g',h1,h2,h3,h4⟩:=aci hT h ho hs
      exact ⟨_,v,W,g',h1,.inl rfl,by rw [hd];exact h2,h3,h4⟩
    · exact lZ hT h hs
  · rename_i t p x ho hd
    unfold qY at hs;split at hs
    · obtain ⟨W',g',h1,h2,h3,h4⟩:=aau hT h ho hs
      exact ⟨_,undef,W',g',h1,.inr ⟨rfl,rfl⟩,by rw [hd];exact h2,h3,h4⟩
    · obtain ⟨W',g',h1,h2,h3,h4⟩:=aap hT h ho hs
      exact ⟨_,undef,W',g',h1,.inr ⟨rfl,rfl⟩,by rw [hd];exact h2,h3,h4⟩
  · rename_i t d ho hd
    unfold nA at hs;split at hs
    case h_2=>cases hs
    rename_i cs hz hl
    cases hs
    obtain ⟨z,hz1,hz2,hz3⟩:=hT.zc t cs hz;obtain ⟨g',h1,h2⟩:=h.var hl (t:=t) (fun loc=>hz2 _ _ _ loc) hz3 (some d);refine ⟨_,_,_,g',?_,.inl rfl,by rw [hd];exact h1,h2.weaken (fun _ _=>trivial) (Nat.le_refl _),by simp⟩;unfold execOp;rw [ho];obtain ⟨i,hi,hi2⟩:=Option.map_eq_some_iff.mp hz1;simp [Sem.run_bind,Instr.alloc,zeroValue,typeInfo,hi,hi2,qZ]
  · rename_i t x d ho hd
    unfold abW at hs;split at hs
    case h_2=>cases hs
    rename_i p hp hl
    split at hs
    case isFalse=>cases hs
    rename_i hg
    cases hs
    have hc:∀ loc,CsR σ.bx.length g W loc p.cells (a.eval x).cells.toList:=fun loc=>by
      have hx:=fQ h hp;exact (vV (fun fr i=>hx fr i) loc).cells hg
    obtain ⟨g',h1,h2⟩:=h.var hl (t:=t) hc ((hc (.tm 0 0 0)).one hg) (some d);refine ⟨_,_,_,g',?_,.inl rfl,by rw [hd];exact h1,h2.weaken (fun _ _=>trivial) (Nat.le_refl _),by simp⟩;unfold execOp;rw [ho];simp [Sem.run_bind,Instr.box,qZ]
  · rename_i t n parts d ho hd
    obtain ⟨v,W',g',h1,h2,h3,h4⟩:=aat hT h ho hs;exact ⟨_,v,W',g',h1,.inl rfl,by rw [hd];exact h2,h3,h4⟩
  · rename_i c d ho hd
    split at hs
    · obtain ⟨v,W',g',h1,h2,h3,h4⟩:=yS hT h ho hs
      exact ⟨_,v,W',g',h1,.inl rfl,by rw [hd];exact h2,h3,h4⟩
    · split at hs
      · exact nC hT h hs
      · exact lZ hT h hs
  · split at hs
    · exact nC hT h hs
    · exact lZ hT h hs
  · exact nC hT h hs
  · exact nC hT h hs
  · exact nC hT h hs
  · exact lZ hT h hs
end
end
end Go.Proofs.YtcomnjodjijcmaaGreat.M
namespace Go.Proofs.YtcomnjodjijcmaaGreat.M
noncomputable section
set_option linter.unusedVariables false
set_option linter.unusedSimpArgs false
open Go.RowKit Go.Proofs.YtcomnjodjijcmaaGreatW.dz Go.Proofs.YtcomnjodjijcmaaGreatW.dX
structure Env where
  T:Tb
  fns:FuncId→Option Func
  sum:FuncId→Option (List AV→Option AV)
  nw:FuncId→Bool
  mt:FuncId→Option (List AV→List Bx→Option (Bool × AV × List Bx))
def vX (o:Oper):Bool:=match o.op with
  | .box _ _ | .makeFunc _ _ _ | .assign _=>true
  | _=>false
def aco (ops:Array Oper):Bool:=ops.toList.all vX&&ops.toList.any fun o=>match o.op with
  | .assign _=>false
  | _=>true
def yX:Code→Bool
  | .skip | .ret=>true
  | .region _ ops _=>aco ops
  | .seq x y=>yX x&&yX y
  | _=>false
def aax (fn:Func):Bool:=(match fn.body with
  | some c=>yX c
  | none=>false)&&fn.results.toList.all fun r=>match r with
    | .tmp _=>true
    | .cell _ _=>false
def Cell.refs (n:Nat):Cell→Bool
  | .bp l _=>decide (n≤l)
  | .fn _ bs=>bs.any fun l=>decide (n≤l)
  | .yl l=>decide (n≤l)
  | .ar l _ _=>decide (n≤l)
  | .ae l _ _ _=>decide (n≤l)
  | .mh l=>decide (n≤l)
  | _=>false
def Pt.refs (n:Nat):Pt→Bool
  | .one c=>c.refs n
  | .agg cs=>cs.any (Cell.refs n)
def AV.refs (n:Nat):AV→Bool
  | .pt p=>p.refs n
  | .tup ps=>ps.any (Pt.refs n)
abbrev ji:=Cell→List AV→List Bx→Option (AV × List Bx)
def gY (T:Tb) (tm:List AV):List Operand→List TypeId→Option (List AV)
  | [],[]=>some []
  | x :: xs,t :: ts=>match opd T.zc tm t x,gY T tm xs ts with
    | some y,some ys=>some (y :: ys)
    | _,_=>none
  | _,_=>none
def kX (E:Env) (call:ji) (σ:St) (c:Call) (d:Option Nat) (f:Cell):Option St :=
  (gY E.T σ.tm c.args.toList c.argTypes.toList).bind fun ys=>(call f ys σ.bx).map fun r=>⟨put σ.tm d r.1,r.2⟩
def mO (E:Env) (call:ji) (σ:St) (c:Call) (d:Option Nat) (f:Cell):Option St :=
  (gY E.T σ.tm c.args.toList c.argTypes.toList).bind fun ys=>(call f ys σ.bx).bind fun r=>if r.1.refs σ.bx.length=true then some ⟨put σ.tm d r.1,σ.bx++r.2.drop σ.bx.length⟩ else none
def jP (E:Env) (σ:St) (c:Call) (d:Option Nat) (s:List AV→Option AV):Option St :=
  ((gY E.T σ.tm c.args.toList c.argTypes.toList).bind s).map fun r=>⟨put σ.tm d r,σ.bx⟩
def sumOf (E:Env):Cell→Option (List AV→Option AV)
  | .fn f []=>E.sum f
  | _=>none
def ku (E:Env) (call:ji) (σ:St) (c:Call) (d:Option Nat) (f:Cell):Option St:=match sumOf E f with
  | some s=>jP E σ c d s
  | none=>kX E call σ c d f
def cellOf? : AV→Option Cell
  | .pt (.one c)=>some c
  | _=>none
def exec (E:Env) (mv:Nat→Bool) (call:ji) (l:Nat) (σ:St) (o:Oper):Option St :=
  match o.op with
  | .call c=>match c.callee with
    | .value (.func f)=>match E.sum f with
      | some s=>jP E σ c o.dst s
      | none=>match E.nw f with
        | true=>mO E call σ c o.dst (.fn f [])
        | false=>kX E call σ c o.dst (.fn f [])
    | .value (.tmp t)=>match mv (t+100000) with
      | true=>((σ.tm[t]?).bind cellOf?).bind fun f=>(sumOf E f).bind fun s=>jP E σ c o.dst s
      | false=>((σ.tm[t]?).bind cellOf?).bind fun f=>ku E call σ c o.dst f
    | .value _=>none
    | _=>step E.T mv l σ o
  | _=>step E.T mv l σ o
def mH (o:Oper):List Nat:=o.op.operands.toList.filterMap fun | .tmp t=>some t | _=>none
theorem jH {zc:TypeId→Option (List Cell)} {tm:List AV} {ty:TypeId} {x:Operand} {d:Nat} {y:AV} (h:x≠.tmp d):opd zc (tm.set d y) ty x=opd zc tm ty x:=by
  cases x with
  | tmp t =>
    show (_:Option AV).map _=(_:Option AV).map _;rw [List.getElem?_set,if_neg (fun e=>h (by rw [e]))]
  | _=>rfl
def Like (L:List Nat) (tm tm':List AV):Prop:=∀ t∈L,(tm[t]?).map AV.un=(tm'[t]?).map AV.un
theorem nD {zc:TypeId→Option (List Cell)} {tm tm':List AV} {ty:TypeId} {x:Operand} {L:List Nat} (h:Like L tm tm') (hx:∀ t,x=.tmp t→t∈L):opd zc tm ty x=opd zc tm' ty x:=by
  cases x with
  | tmp t=>exact h t (hx t rfl)
  | _=>rfl
theorem eU {o:Oper} {t:Nat} (h:Operand.tmp t∈o.op.operands):t∈mH o:=List.mem_filterMap.2 ⟨.tmp t,by simpa using h,rfl⟩
theorem jQ {T:Tb} {tm tm':List AV} {L:List Nat} (h:Like L tm tm'):∀ {xs:List Operand} {ts:List TypeId},(∀ t,Operand.tmp t∈xs→t∈L)→gY T tm xs ts=gY T tm' xs ts
  | [],[],_=>rfl
  | [],_ :: _,_=>rfl
  | _ :: _,[],_=>rfl
  | x :: xs,t :: ts,hx=>by
    simp only [gY];rw [nD h (fun t e=>hx t (by rw [e];exact List.mem_cons_self)),jQ h (fun t ht=>hx t (List.mem_cons_of_mem _ ht))]
theorem pY {T:Tb} {tm tm':List AV} {L:List Nat} (h:Like L tm tm'):∀ {xs:List Operand},(∀ t,Operand.tmp t∈xs→t∈L)→pO T tm xs=pO T tm' xs
  | [],_=>rfl
  | x :: xs,hx=>by
    simp only [pO];rw [nD h (fun t e=>hx t (by rw [e];exact List.mem_cons_self)),pY h (fun t ht=>hx t (List.mem_cons_of_mem _ ht))]
theorem ru {T:Tb} {tm tm':List AV} {L:List Nat} (h:Like L tm tm') {ps:List (Nat × Nat × TypeId)}:∀ {parts:List (Nat × Operand)} {cs:List Cell},(∀ t,Operand.tmp t∈parts.map (·.2)→t∈L)→vR T tm ps cs parts=vR T tm' ps cs parts
  | [],cs,_=>rfl
  | (i,x) :: r,cs,hx=>by
    simp only [vR];cases ps[i]? with
    | none=>rfl
    | some q =>
      obtain ⟨off,n,ft⟩:=q;simp only;rw [nD h (fun t e=>hx t (by rw [e];exact List.mem_cons_self))];cases opd T.zc tm' ft x with
      | none=>rfl
      | some y =>
        cases y with
        | tup=>rfl
        | pt p =>
          simp only;split
          · exact ru h (fun t ht=>hx t (List.mem_cons_of_mem _ ht))
          · rfl
def Bx.un:Bx→Bx
  | .box t cs=>.box t (cs.map Cell.un)
  | b=>b
def Bx.fixed:Bx→Bool
  | .arr _ _ _ | .mi _=>true
  | _=>false
def aay (bx bx':List Bx):Prop:=(∀ (l:Nat) (t:TypeId) (cs:List Cell),bx[l]? = some (Bx.box t cs)→∃ cs':List Cell,bx'[l]? = some (Bx.box t cs')∧cs'.map Cell.un=cs.map Cell.un)∧∀ (l:Nat) (B:Bx),bx[l]? = some B→B.fixed=true→bx'[l]? = some B
theorem qI (c:Cell):c.un.un=c.un:=by cases c <;> rfl
theorem ad3 {cs cs':List Cell} (h:cs'.map Cell.un=cs.map Cell.un) (off:Nat) (s:Bool × Nat):abU cs' off s=abU cs off s:=by
  obtain ⟨ag,n⟩:=s;have hl:cs'.length=cs.length:=by simpa using congrArg List.length h
  have hg:∀ k,(cs'[k]?).map Cell.un=(cs[k]?).map Cell.un:=fun k=>by rw [← List.getElem?_map,← List.getElem?_map,h]
  cases ag
  · simp only [abU]
    have:=hg off;cases h1:cs'[off]? <;> cases h2:cs[off]? <;> simp_all
  · simp only [abU,hl]
    split
    · congr 2
      rw [List.map_take,List.map_drop,List.map_take,List.map_drop,h]
    · rfl
def sees (T:Tb) (o:Oper) (tm:List AV) (l:Nat):Prop:=(∃ t x k i off,o.op=.load t x∧opd T.zc tm 0 x=some (.pt (.one (.ae l k i off))))∨∃ t m x,o.op=.lookup t m x false∧opd T.zc tm 0 m=some (.pt (.one (.mh l)))
def uy (o:Oper):Bool:=match o.op with
  | .load _ _ | .lookup _ _ _ _=>true
  | _=>false
def qJ (T:Tb) (o:Oper) (tm:List AV) (bx bx':List Bx):Prop:=∀ t x,o.op=.load t x→∀ l off,opd T.zc tm 0 x=some (.pt (.one (.bp l off)))→∀ (t':TypeId) (cs:List Cell),bx[l]? = some (Bx.box t' cs)→∃ cs':List Cell,bx'[l]? = some (Bx.box t' cs')∧cs'.map Cell.un=cs.map Cell.un
def acp (T:Tb) (o:Oper) (tm:List AV) (bx bx':List Bx):Prop:=∀ l B,sees T o tm l→bx[l]? = some B→B.fixed=true→bx'[l]? = some B
theorem qJ.of {T:Tb} {o:Oper} {tm:List AV} {bx bx':List Bx} (h:uy o=false∨aay bx bx'):qJ T o tm bx bx'∧acp T o tm bx bx':=⟨fun t x ho l off _ t' cs hl=>h.elim (fun h=>by simp [uy,ho] at h) (fun h=>h.1 l t' cs hl),fun l B hs hl hf=>h.elim (fun h=>by rcases hs with ⟨t,x,_,_,_,ho,_⟩ | ⟨t,m,x,ho,_⟩ <;> simp [uy,ho] at h) (fun h=>h.2 l B hl hf)⟩
theorem xJ {T:Tb} {tm tm':List AV} {bx bx':List Bx} {o:Oper} (h:Like (mH o) tm tm') (hb:qJ T o tm bx bx'∧acp T o tm bx bx') {x:AV} (hv:val T tm bx o=some x):val T tm' bx' o=some x:=by
  have hm:∀ {y:Operand} {ty:TypeId},(∀ t,y=.tmp t→t∈mH o)→opd T.zc tm ty y=opd T.zc tm' ty y:=fun hy=>nD h hy;unfold val at hv ⊢;split at hv <;> rename_i ho
  · rename_i y
    rw [← hm (fun t e=>eU (by rw [ho,e];simp [Op.operands]))];exact hv
  · rename_i y
    rw [← hm (fun t e=>eU (by rw [ho,e];simp [Op.operands]))];exact hv
  · rename_i c y z
    rw [← hm (y:=c) (fun t e=>eU (by rw [ho,e];simp [Op.operands])),← hm (y:=y) (fun t e=>eU (by rw [ho,e];simp [Op.operands])),← hm (y:=z) (fun t e=>eU (by rw [ho,e];simp [Op.operands]))];exact hv
  · rename_i t y
    rw [← hm (y:=y) (fun t e=>eU (by rw [ho,e];simp [Op.operands]))];split at hv
    · rename_i l off s hy hs
      split at hv
      · rename_i t' cs hl
        obtain ⟨cs',h1,h2⟩:=hb.1 _ _ ho l off hy t' cs hl;simp only [h1];rw [ad3 h2];exact hv
      · cases hv
    · rename_i k z off s hy hs
      exact hv
    · rename_i l k i off s hy hs
      split at hv
      case h_2=>cases hv
      rename_i e0 k' xs hl
      have:=hb.2 l _ (.inl ⟨_,_,_,_,_,ho,hy⟩) hl rfl;simp only [this];exact hv
    · cases hv
  · rename_i t y f
    rw [← hm (y:=y) (fun t e=>eU (by rw [ho,e];simp [Op.operands]))];exact hv
  · rename_i t y i
    rw [← hm (y:=y) (fun t e=>eU (by rw [ho,e];simp [Op.operands])),← hm (y:=i) (fun t e=>eU (by rw [ho,e];simp [Op.operands]))];exact hv
  · rename_i y i
    rw [← hm (y:=y) (fun t e=>eU (by rw [ho,e];simp [Op.operands]))];exact hv
  · rename_i op t y z ty
    rw [← hm (y:=y) (fun t e=>eU (by rw [ho,e];simp [Op.operands])),← hm (y:=z) (fun t e=>eU (by rw [ho,e];simp [Op.operands]))];exact hv
  · rename_i op t y
    rw [← hm (y:=y) (fun t e=>eU (by rw [ho,e];simp [Op.operands]))];exact hv
  · rename_i c
    unfold af8 at hv ⊢;have hmem:∀ {z:Operand},z∈c.args.toList→∀ t,z=.tmp t→t∈mH o:=fun hz t e=>eU (by rw [ho];simp only [Op.operands,Call.operands];exact Array.mem_append.2 (.inr (by rw [← e];simpa using hz)));split at hv
    case h_4=>cases hv
    case h_2 =>
      rename_i ats0 y z hcal hargs
      rw [← hm (y:=y) (hmem (by rw [hargs];simp)),← hm (y:=z) (hmem (by rw [hargs];simp))];exact hv
    case h_3 =>
      rename_i ats0 y z hcal hargs
      rw [← hm (y:=y) (hmem (by rw [hargs];simp)),← hm (y:=z) (hmem (by rw [hargs];simp))];exact hv
    rename_i y t h1 h2 h3
    rw [← hm (y:=y) (fun t e=>eU (by
        rw [ho];simp only [Op.operands,Call.operands,h1];rw [← e];have:y∈c.args.toList:=by rw [h2];exact List.mem_cons_self
        simpa using this))]
    exact hv
  · rename_i op h1 h2 h3 h4 h5 h6 h7 h8 h9
    cases hop:o.op with
    | convert s t x =>
      rw [hop] at hv;simp only [zV] at hv ⊢;rw [← hm (y:=x) (fun t e=>eU (by rw [hop,e];simp [Op.operands]))];exact hv
    | build t parts =>
      rw [hop] at hv;simp only [zV] at hv ⊢;split at hv
      case h_2=>cases hv
      rename_i cs ps hz hst
      rw [← ru h (fun t ht=>eU (by rw [hop];simpa [Op.operands] using ht))];exact hv
    | lookup t m x ok =>
      rw [hop] at hv;cases ok with
      | true=>cases hv
      | false =>
        simp only [zV] at hv ⊢;rw [← hm (y:=m) (fun t e=>eU (by rw [hop,e];simp [Op.operands])),← hm (y:=x) (fun t e=>eU (by rw [hop,e];simp [Op.operands]))];split at hv
        case h_2=>cases hv
        rename_i l k r q1 q2 q3
        split at hv
        case h_2=>cases hv
        rename_i xs hl
        have:=hb.2 l _ (.inr ⟨_,_,_,hop,q1⟩) hl rfl;simp only [this];exact hv
    | slice t x lo hi mx =>
      rw [hop] at hv;simp only [zV] at hv ⊢;have ho:∀ {y:Option Operand},(∀ z,y=some z→z∈o.op.operands)→abV T tm y=abV T tm' y:=fun {y} hy=>by
        cases y with
        | none=>rfl
        | some z=>simp only [abV];rw [hm (y:=z) (fun t e=>eU (by rw [← e];exact hy z rfl))]
      rw [← hm (y:=x) (fun t e=>eU (by rw [hop,e];simp [Op.operands])),← ho (y:=lo) (fun z e=>by rw [hop,e];simp [Op.operands]),← ho (y:=hi) (fun z e=>by rw [hop,e];simp [Op.operands]),← ho (y:=mx) (fun z e=>by rw [hop,e];simp [Op.operands])];exact hv
    | makeFunc fn first caps =>
      rw [hop] at hv;cases fn with
      | func f =>
        simp only [zV] at hv ⊢;rw [← pY h (fun t ht=>eU (by rw [hop];simp only [Op.operands];exact Array.mem_append.2 (.inr (by simpa using ht))))];exact hv
      | _=>exact hv
    | _=>rw [hop] at hv;cases hv
def aaz (T:Tb) (tm:List AV) (t:TypeId) (n:Nat) (parts:List (Nat × Operand)):Option AV :=
  match T.el t with
  | some (e,k,_)=>if parts.length=n∧n*k.sz≤16777216 then (lI T tm e k 0 parts).map fun xs=>.pt (.one (.ow e k xs)) else none
  | none=>none
def isF (E:Env) (mv:Nat→Bool) (o:Oper):Bool :=
  match o.op,o.dst with
  | .assign (.tmp _),some _=>false
  | .move (.tmp _),some d => !mv d
  | .extract (.tmp _) _,some d => !mv d
  | .load _ _,some d => !mv d
  | .store _ _ _,_=>false
  | .alloc _,_=>false
  | .box _ _,_=>false
  | .buildSlice _ _ _,d=>d.isSome
  | .makeSlice _ _ _,_=>false
  | .makeMap _ _,_=>false
  | .mapUpdate _ _ _ _,_=>false
  | .call c,_=>match c.callee with
    | .value (.func f)=>(E.sum f).isSome
    | .value (.tmp t)=>mv (t+100000)
    | .value _=>false
    | .builtin .append=>false
    | .builtin .copy=>false
    | _=>true
  | _,_=>true
def aaA (E:Env) (o:Oper) (tm:List AV) (bx:List Bx):Option AV :=
  match o.op with
  | .call c=>match c.callee with
    | .value (.func f)=>(E.sum f).bind fun s=>(gY E.T tm c.args.toList c.argTypes.toList).bind s
    | .value (.tmp t)=>((tm[t]?).bind cellOf?).bind fun f=>(sumOf E f).bind fun s=>(gY E.T tm c.args.toList c.argTypes.toList).bind s
    | _=>val E.T tm bx o
  | .buildSlice t n parts=>aaz E.T tm t n parts.toList
  | _=>val E.T tm bx o
theorem aaB {E:Env} {mv:Nat→Bool} {call:ji} {l:Nat} {σ:St} {o:Oper} (h:isF E mv o=true):exec E mv call l σ o=(aaA E o σ.tm σ.bx).map fun x=>⟨put σ.tm o.dst x,σ.bx⟩:=by
  obtain ⟨dst,op,ty,pos,after,guard⟩:=o;cases op with
  | assign x=>cases x <;> cases dst <;> first | rfl | cases h
  | move x=>cases x <;> cases dst <;> first | rfl | (simp only [isF,Bool.not_eq_true'] at h;simp only [exec,step,h];rfl)
  | extract x i=>cases x <;> cases dst <;> first | rfl | (simp only [isF,Bool.not_eq_true'] at h;simp only [exec,step,h];rfl)
  | load t x=>cases dst <;> first | rfl | (simp only [isF,Bool.not_eq_true'] at h;simp only [exec,step,h];rfl)
  | store=>cases h
  | alloc=>cases h
  | box=>cases h
  | makeSlice=>cases h
  | makeMap=>cases h
  | mapUpdate=>cases h
  | buildSlice t n parts =>
    cases dst with
    | none=>cases h
    | some d =>
      simp only [exec,step,aaA,qX,aaz];cases he:E.T.el t with
      | none=>rfl
      | some q =>
        obtain ⟨e,k,b⟩:=q;by_cases hc:parts.toList.length=n∧n*k.sz≤16777216
        · simp only [if_pos hc,Option.map_map];rfl
        · simp only [if_neg hc];rfl
  | call c =>
    obtain ⟨aa,args,ats⟩:=c;cases aa with
    | value f =>
      cases f with
      | func f =>
        simp only [isF] at h;obtain ⟨s,hs⟩:=Option.isSome_iff_exists.1 h;simp only [exec,aaA,hs,Option.bind_some,jP]
      | tmp t =>
        simp only [isF] at h;simp only [exec,aaA,h,jP];cases (σ.tm[t]?).bind cellOf? with
        | none=>rfl
        | some f =>
          simp only [Option.bind_some];cases sumOf E f with
          | none=>rfl
          | some s=>rfl
      | _=>cases h
    | invoke=>cases dst <;> rfl
    | builtin b=>cases b <;> cases dst <;> first | rfl | cases h
  | _=>cases dst <;> rfl
theorem oH {T:Tb} {tm tm':List AV} {e:TypeId} {k:Ty} {L:List Nat} (h:Like L tm tm'):∀ (parts:List (Nat × Operand)) (i:Nat),(∀ t,Operand.tmp t∈parts.map (·.2)→t∈L)→lI T tm e k i parts=lI T tm' e k i parts
  | [],_,_=>rfl
  | (j,x) :: r,i,hx=>by
    simp only [lI];rw [nD h (fun t e=>hx t (by rw [e];exact List.mem_cons_self)),oH h r (i+1) (fun t ht=>hx t (List.mem_cons_of_mem _ ht))]
theorem rz {E:Env} (y:AV):(cellOf? y.un).bind (sumOf E)=(cellOf? y).bind (sumOf E):=by
  cases y with
  | tup ps=>rfl
  | pt p =>
    cases p with
    | agg cs=>rfl
    | one c=>cases c <;> rfl
theorem p8 {E:Env} {tm tm':List AV} {bx bx':List Bx} {o:Oper} (h:Like (mH o) tm tm') (hb:qJ E.T o tm bx bx'∧acp E.T o tm bx bx') {x:AV} (hv:aaA E o tm bx=some x):aaA E o tm' bx'=some x:=by
  unfold aaA at hv ⊢;split at hv <;> rename_i ho
  · split at hv <;> rename_i hc
    · rw [← jQ h (fun t ht=>eU (by rw [ho];simp only [Op.operands,Call.operands,hc];exact Array.mem_append.2 (.inr (by simpa using ht))))]
      exact hv
    · rename_i t
      have hm:t∈mH o:=eU (by rw [ho];simp [Op.operands,Call.operands,hc]);rw [← jQ h (fun t ht=>eU (by rw [ho];simp only [Op.operands,Call.operands,hc];exact Array.mem_append.2 (.inr (by simpa using ht))))];obtain ⟨f,h1,h2⟩:=Option.bind_eq_some_iff.mp hv;obtain ⟨s,h3,h4⟩:=Option.bind_eq_some_iff.mp h2;obtain ⟨y,h5,h6⟩:=Option.bind_eq_some_iff.mp h1;have e:=h t hm;rw [h5] at e;cases h7:tm'[t]? with
      | none=>rw [h7] at e;cases e
      | some y' =>
        rw [h7] at e;have e:=Option.some.inj e;have:(cellOf? y').bind (sumOf E)=some s:=by rw [← rz,← e,rz,h6];exact h3
        obtain ⟨f',g1,g2⟩:=Option.bind_eq_some_iff.mp this;simp only [Option.bind_some,g1,g2];exact h4
    · exact xJ h hb hv
  · rename_i t n parts
    unfold aaz at hv ⊢;split at hv
    · split at hv
      · rename_i hc
        rw [if_pos hc,← oH h parts.toList 0 (fun t ht=>eU (by rw [ho];simpa [Op.operands] using ht))];exact hv
      · cases hv
    · cases hv
  · exact xJ h hb hv
theorem Like.symm {L:List Nat} {tm tm':List AV} (h:Like L tm tm'):Like L tm' tm:=fun t ht=>(h t ht).symm
theorem aay.refl (bx:List Bx):aay bx bx:=⟨fun l t cs h=>⟨cs,h,rfl⟩,fun l B h _=>h⟩
theorem l5 {L:List Nat} {tm:List AV} {d:Nat} {x:AV} (h:d ∉ L):Like L (tm.set d x) tm:=fun t ht=>by
  have e:d≠t:=fun e=>h (by rw [e];exact ht);rw [List.getElem?_set,if_neg e]
theorem acr {E:Env} {tm:List AV} {bx:List Bx} {o:Oper} {d:Nat} {x:AV} (h:d ∉ mH o):aaA E o (tm.set d x) bx=aaA E o tm bx :=
  Option.ext fun r=>⟨fun hr=>p8 (l5 h) (qJ.of (.inr (aay.refl _))) hr,fun hr=>p8 (l5 h).symm (qJ.of (.inr (aay.refl _))) hr⟩
theorem nU {tm:List AV} {d:Option Nat} {d':Nat} {x y:AV} (h:d≠some d'):put (tm.set d' x) d y=(put tm d y).set d' x:=by
  cases d with
  | none=>rfl
  | some d=>exact List.set_comm _ _ (fun e=>h (by rw [e]))
end
end Go.Proofs.YtcomnjodjijcmaaGreat.M
namespace Go.Proofs.YtcomnjodjijcmaaGreat.M
noncomputable section
set_option linter.unusedVariables false
set_option linter.unusedSimpArgs false
open Go.RowKit Go.Proofs.YtcomnjodjijcmaaGreatW.dz Go.Proofs.YtcomnjodjijcmaaGreatW.dX
section
variable {E:Env} {mv:Nat→Bool} {call:ji} {l:Nat} {σ:St} {o:Oper}
def St.at (σ:St) (d:Nat) (x:AV):St:=⟨σ.tm.set d x,σ.bx⟩
theorem jF {tm:List AV} {s d:Nat} {x:AV} (h:s≠d):(tm.set d x)[s]? = tm[s]? := by rw [List.getElem?_set,if_neg (Ne.symm h)]
theorem uz {s d0 d:Nat} {x:AV} (h1:s≠d) (h2:d0≠d):moveA (σ.at d x) s d0=(moveA σ s d0).map (·.at d x):=by
  unfold moveA;show ((σ.tm.set d x)[s]?).map _=_;rw [jF h1,Option.map_map];congr 1;funext y;show (if s=d0 then _ else _)=St.at (if s=d0 then _ else _) d x;split
  · rfl
  · simp only [St.at]
    rw [List.set_comm _ _ (Ne.symm h1),List.set_comm _ _ (Ne.symm h2)]
theorem aaC {s i d0 d:Nat} {x:AV} (h1:s≠d) (h2:d0≠d):moveB (σ.at d x) s i d0=(moveB σ s i d0).map (·.at d x):=by
  have e:(σ.at d x).tm[s]? = σ.tm[s]? := jF h1;simp only [moveB,e];cases σ.tm[s]? with
  | none=>rfl
  | some z =>
    cases z with
    | pt p=>rfl
    | tup ps =>
      simp only [Option.map_map];congr 1;funext y;simp only [Function.comp,St.at];rw [List.set_comm _ _ (Ne.symm h1),List.set_comm _ _ (Ne.symm h2)]
theorem xK (q:Option AV):(∃ l off,q=some (.pt (.one (.bp l off))))∨∀ l off,q≠some (.pt (.one (.bp l off))):=by
  by_cases h:∃ l off,q=some (.pt (.one (.bp l off)))
  · exact .inl h
  · exact .inr (fun l off e=>h ⟨l,off,e⟩)
theorem uD (q:Option Bx):(∃ t cs,q=some (.box t cs))∨∀ t cs,q≠some (.box t cs):=by
  by_cases h:∃ t cs,q=some (.box t cs)
  · exact .inl h
  · exact .inr (fun l off e=>h ⟨l,off,e⟩)
theorem aaD {T:Tb} {t:TypeId} {y:Operand} {d0 d:Nat} {x:AV} (h1:y≠.tmp d) (h2:d0≠d):uq T (σ.at d x) t y d0=(uq T σ t y d0).map (·.at d x):=by
  have e:opd T.zc (σ.at d x).tm 0 y=opd T.zc σ.tm 0 y:=jH h1;have e2:(σ.at d x).bx=σ.bx:=rfl;simp only [uq,e,e2];rcases xK (opd T.zc σ.tm 0 y) with ⟨l,off,hq⟩ | hq
  · rw [hq]
    cases T.sh t with
    | none=>rfl
    | some s =>
      simp only;rcases uD σ.bx[l]? with ⟨t',cs,hb⟩ | hb
      · rw [hb]
        simp only [Option.map_map];congr 1;funext y;simp only [Function.comp,St.at];rw [List.set_comm _ _ (Ne.symm h2)]
      · split
        · rename_i h;exact (hb _ _ h).elim
        · rfl
  · split
    · rename_i h _;exact (hq _ _ h).elim
    · rfl
theorem uE {T:Tb} {tm:List AV} {t:TypeId} {y:Operand} {d:Nat} {x:AV} (h1:y≠.tmp d):pR T (tm.set d x) t y=pR T tm t y:=by
  cases y with
  | tmp s=>exact jF (fun e=>h1 (by rw [e]))
  | const v=>rfl
  | func f=>rfl
  | global q=>rfl
theorem uF {tm:List AV} {y:Operand} {p:Pt} {d:Nat} {x:AV} (h1:y≠.tmp d):nT (tm.set d x) y p=(nT tm y p).set d x:=by
  cases y with
  | tmp s=>exact List.set_comm _ _ (fun e=>h1 (by rw [e]))
  | const v=>rfl
  | func f=>rfl
  | global q=>rfl
theorem yY {T:Tb} {t:TypeId} {y z:Operand} {d:Nat} {x:AV} (h1:y≠.tmp d) (h2:z≠.tmp d):pU T (σ.at d x) t y z=(pU T σ t y z).map (·.at d x):=by
  have e:opd T.zc (σ.at d x).tm 0 y=opd T.zc σ.tm 0 y:=jH h1;have e1:pR T (σ.at d x).tm t z=pR T σ.tm t z:=uE h2;have e2:(σ.at d x).bx=σ.bx:=rfl;simp only [pU,e,e1,e2];rcases xK (opd T.zc σ.tm 0 y) with ⟨l,off,hq⟩ | hq
  · rw [hq]
    cases T.sh t with
    | none=>rfl
    | some s =>
      obtain ⟨ag,n⟩:=s;cases pR T σ.tm t z with
      | none=>rfl
      | some w =>
        cases w with
        | tup ps=>rfl
        | pt p =>
          simp only;rcases uD σ.bx[l]? with ⟨t',cs,hb⟩ | hb
          · rw [hb]
            simp only;split
            · simp only [Option.map_some,St.at]
              rw [uF h2]
            · rfl
          · split
            · rename_i h;exact (hb _ _ h).elim
            · rfl
  · split
    · rename_i h _ _;exact (hq _ _ h).elim
    · rfl
theorem yZ {T:Tb} {t:TypeId} {d0 d:Nat} {x:AV} (h2:d0≠d):nA T l (σ.at d x) t d0=(nA T l σ t d0).map (·.at d x):=by
  have e2:(σ.at d x).bx=σ.bx:=rfl;simp only [nA,e2];cases T.zc t with
  | none=>rfl
  | some cs =>
    cases σ.bx[l]? with
    | none=>rfl
    | some b =>
      cases b with
      | no =>
        simp only [Option.map_some,St.at];rw [List.set_comm _ _ (Ne.symm h2)]
      | _=>rfl
theorem acs {T:Tb} {t:TypeId} {y:Operand} {d0 d:Nat} {x:AV} (h1:y≠.tmp d) (h2:d0≠d):abW T l (σ.at d x) t y d0=(abW T l σ t y d0).map (·.at d x):=by
  have e:opd T.zc (σ.at d x).tm t y=opd T.zc σ.tm t y:=jH h1;have e2:(σ.at d x).bx=σ.bx:=rfl;simp only [abW,e,e2];cases opd T.zc σ.tm t y with
  | none=>rfl
  | some w =>
    cases w with
    | tup ps=>rfl
    | pt p =>
      cases σ.bx[l]? with
      | none=>rfl
      | some b =>
        cases b with
        | no =>
          simp only;split
          · simp only [Option.map_some,St.at]
            rw [List.set_comm _ _ (Ne.symm h2)]
          · rfl
        | _=>rfl
theorem vY {T:Tb} {c:Call} {d0 d:Nat} {x:AV} (h1:∀ y∈c.args.toList,y≠.tmp d) (h2:d0≠d):ko T (σ.at d x) c d0=(ko T σ c d0).map (·.at d x):=by
  unfold ko;split
  case h_2=>rfl
  rename_i s y t t' hc ha ht
  rw [ha] at h1;have e1:pR T (σ.at d x).tm t s=pR T σ.tm t s:=uE (h1 s (by simp));have e2:opd T.zc (σ.at d x).tm t y=opd T.zc σ.tm t y:=jH (h1 y (by simp));split
  case isFalse=>rfl
  rw [e1,e2,Option.map_map];congr 1;funext r;show (⟨(nT (σ.tm.set d x) s _).set d0 _,σ.bx⟩:St)=⟨((nT σ.tm s _).set d0 _).set d x,σ.bx⟩;rw [uF (h1 s (by simp)),List.set_comm _ _ (Ne.symm h2)]
theorem vZ {c:Call} {d0:Option Nat} {d:Nat} {x:AV} {s:List AV→Option AV} (h1:∀ t,Operand.tmp t∈c.args.toList→t≠d) (h2:d0≠some d):jP E (σ.at d x) c d0 s=(jP E σ c d0 s).map (·.at d x):=by
  unfold jP;have:gY E.T (σ.tm.set d x) c.args.toList c.argTypes.toList=gY E.T σ.tm c.args.toList c.argTypes.toList :=
    jQ (L:=c.args.toList.filterMap fun | .tmp t=>some t | _=>none) (l5 (fun h=>by
      obtain ⟨y,hy,hy2⟩:=List.mem_filterMap.1 h;cases y <;> simp at hy2;subst hy2;exact h1 _ hy rfl)) (fun t ht=>List.mem_filterMap.2 ⟨_,ht,rfl⟩)
  show ((gY E.T (σ.tm.set d x) c.args.toList c.argTypes.toList).bind s).map _=_;rw [this,Option.map_map];congr 1;funext r;show (⟨put (σ.tm.set d x) d0 r,σ.bx⟩:St)=⟨(put σ.tm d0 r).set d x,σ.bx⟩;rw [nU h2]
theorem wm {c:Call} {d0:Option Nat} {d:Nat} {x:AV} {f:Cell} (h1:∀ t,Operand.tmp t∈c.args.toList→t≠d) (h2:d0≠some d):mO E call (σ.at d x) c d0 f=(mO E call σ c d0 f).map (·.at d x):=by
  unfold mO;have:gY E.T (σ.tm.set d x) c.args.toList c.argTypes.toList=gY E.T σ.tm c.args.toList c.argTypes.toList :=
    jQ (L:=c.args.toList.filterMap fun | .tmp t=>some t | _=>none) (l5 (fun h=>by
      obtain ⟨y,hy,hy2⟩:=List.mem_filterMap.1 h;cases y <;> simp at hy2;subst hy2;exact h1 _ hy rfl)) (fun t ht=>List.mem_filterMap.2 ⟨_,ht,rfl⟩)
  show (gY E.T (σ.tm.set d x) c.args.toList c.argTypes.toList).bind _=_;rw [this];cases gY E.T σ.tm c.args.toList c.argTypes.toList with
  | none=>rfl
  | some ys =>
    show (call f ys σ.bx).bind _=((call f ys σ.bx).bind _).map _;cases call f ys σ.bx with
    | none=>rfl
    | some r =>
      show (if r.1.refs σ.bx.length=true then some (⟨put (σ.tm.set d x) d0 r.1,σ.bx++r.2.drop σ.bx.length⟩:St) else none)=Option.map _ (if r.1.refs σ.bx.length=true then some (⟨put σ.tm d0 r.1,σ.bx++r.2.drop σ.bx.length⟩:St) else none);by_cases hr:r.1.refs σ.bx.length=true
      · rw [if_pos hr,if_pos hr,nU h2]
        rfl
      · rw [if_neg hr,if_neg hr]
        rfl
theorem p9 {c:Call} {d0:Option Nat} {d:Nat} {x:AV} {f:Cell} (h1:∀ t,Operand.tmp t∈c.args.toList→t≠d) (h2:d0≠some d):kX E call (σ.at d x) c d0 f=(kX E call σ c d0 f).map (·.at d x):=by
  unfold kX;have:gY E.T (σ.tm.set d x) c.args.toList c.argTypes.toList=gY E.T σ.tm c.args.toList c.argTypes.toList :=
    jQ (L:=c.args.toList.filterMap fun | .tmp t=>some t | _=>none) (l5 (fun h=>by
      obtain ⟨y,hy,hy2⟩:=List.mem_filterMap.1 h;cases y <;> simp at hy2;subst hy2;exact h1 _ hy rfl)) (fun t ht=>List.mem_filterMap.2 ⟨_,ht,rfl⟩)
  show (gY E.T (σ.tm.set d x) c.args.toList c.argTypes.toList).bind _=_;rw [this];cases gY E.T σ.tm c.args.toList c.argTypes.toList with
  | none=>rfl
  | some ys =>
    show (call f ys σ.bx).map _=((call f ys σ.bx).map _).map _;rw [Option.map_map];congr 1;funext r;show (⟨put (σ.tm.set d x) d0 r.1,r.2⟩:St)=⟨(put σ.tm d0 r.1).set d x,r.2⟩;rw [nU h2]
theorem ze {T:Tb} {t:TypeId} {y z:Operand} {d:Nat} {x:AV} (h1:y≠.tmp d) (h2:z≠.tmp d):pX T (σ.at d x) t y z=(pX T σ t y z).map (·.at d x):=by
  have e:opd T.zc (σ.at d x).tm 0 y=opd T.zc σ.tm 0 y:=jH h1;have e1:opd T.zc (σ.at d x).tm t z=opd T.zc σ.tm t z:=jH h2;have e2:(σ.at d x).bx=σ.bx:=rfl;unfold pX;rw [e,e1,e2];split
  case h_2=>rfl
  split
  case h_2=>rfl
  split
  case isFalse=>rfl
  split
  case isFalse=>rfl
  rw [Option.map_map];rfl
theorem zf {T:Tb} {t:TypeId} {y z:Operand} {d:Nat} {x:AV} (h1:y≠.tmp d) (h2:z≠.tmp d):qY T (σ.at d x) t y z=(qY T σ t y z).map (·.at d x):=by
  have e:opd T.zc (σ.at d x).tm 0 y=opd T.zc σ.tm 0 y:=jH h1;unfold qY;rw [e];split
  · exact ze h1 h2
  · exact yY h1 h2
theorem lJ {T:Tb} {d:Nat} {x:AV} (h1:∀ y,y∈o.op.operands→y≠.tmp d) (h2:o.dst≠some d):lD T l (σ.at d x) o=(lD T l σ o).map (·.at d x):=by
  have hd:∀ d0,o.dst=some d0→d0≠d:=fun d0 e e'=>h2 (by rw [e,e']);have e2:(σ.at d x).bx=σ.bx:=rfl;unfold lD;split
  · rename_i t n c d0 ho hd0
    have e:opd T.zc (σ.at d x).tm 0 n=opd T.zc σ.tm 0 n:=jH (h1 n (by rw [ho];simp [Op.operands]));have e1:opd T.zc (σ.at d x).tm 0 c=opd T.zc σ.tm 0 c:=jH (h1 c (by rw [ho];simp [Op.operands]));unfold mkS;rw [e,e1];split
    case h_2=>rfl
    split
    case h_2=>rfl
    split
    case isFalse=>rfl
    split
    case isFalse=>rfl
    split
    case isFalse=>rfl
    simp only [Option.map_some,St.at];rw [List.set_comm _ _ (Ne.symm (hd _ hd0))]
  · rename_i t d0 ho hd0
    unfold ado;rw [e2];split
    case h_2=>rfl
    simp only [Option.map_some,St.at];rw [List.set_comm _ _ (Ne.symm (hd _ hd0))]
  · rename_i t m k y ho hd0
    have e:opd T.zc (σ.at d x).tm 0 m=opd T.zc σ.tm 0 m:=jH (h1 m (by rw [ho];simp [Op.operands]));have e1:opd T.zc (σ.at d x).tm 0 k=opd T.zc σ.tm 0 k:=jH (h1 k (by rw [ho];simp [Op.operands]));have e3:opd T.zc (σ.at d x).tm 0 y=opd T.zc σ.tm 0 y:=jH (h1 y (by rw [ho];simp [Op.operands]));unfold afd;rw [e,e1,e3,e2];split
    case h_2=>rfl
    split
    case h_2=>rfl
    rfl
  · rename_i c ho
    unfold yV;split
    case h_2=>rfl
    rename_i y z t t' hc ha ht
    have hmem:∀ w,w∈c.args.toList→w≠.tmp d:=fun w hw=>h1 w (by rw [ho];simp only [Op.operands,Call.operands];exact Array.mem_append.2 (.inr (by simpa using hw)));rw [ha] at hmem;have e:opd T.zc (σ.at d x).tm 0 y=opd T.zc σ.tm 0 y:=jH (hmem y (by simp));have e1:opd T.zc (σ.at d x).tm 0 z=opd T.zc σ.tm 0 z:=jH (hmem z (by simp));rw [e,e1,e2];split
    case h_2=>rfl
    split
    case h_2=>rfl
    split
    case isFalse=>rfl
    split
    case isFalse=>rfl
    simp only [Option.map_some,St.at];rw [nU h2]
  · rfl
theorem qK {t d:Nat} (h:d ∉ mH o) (ht:Operand.tmp t∈o.op.operands):t≠d:=fun e=>h (e ▸ eU ht)
theorem uG {c:Call} {d0:Option Nat} {d:Nat} {x:AV} {f:Cell} (h1:∀ t,Operand.tmp t∈c.args.toList→t≠d) (h2:d0≠some d):ku E call (σ.at d x) c d0 f=(ku E call σ c d0 f).map (·.at d x):=by
  unfold ku;cases sumOf E f with
  | some s=>exact vZ h1 h2
  | none=>exact p9 h1 h2
theorem acu {d:Nat} {x:AV} (h1:d ∉ mH o) (h2:o.dst≠some d):exec E mv call l (σ.at d x) o=(exec E mv call l σ o).map (·.at d x):=by
  by_cases hF:isF E mv o=true
  · rw [aaB hF,aaB hF]
    show (aaA E o (σ.tm.set d x) σ.bx).map _=_;rw [acr h1,Option.map_map];congr 1;funext y;show (⟨put (σ.tm.set d x) o.dst y,σ.bx⟩:St)=⟨(put σ.tm o.dst y).set d x,σ.bx⟩;rw [nU h2]
  · obtain ⟨dst,op,ty,pos,after,guard⟩:=o
    have hne:∀ y,y∈op.operands→y≠.tmp d:=fun y hy e=>by
      subst e;exact qK h1 hy rfl
    have hnt:∀ s,Operand.tmp s∈op.operands→s≠d:=fun s hs e=>hne _ hs (by rw [e]);have hd:∀ d0,dst=some d0→d0≠d:=fun d0 e e'=>h2 (by rw [e,e']);cases op with
    | assign y=>cases y <;> cases dst <;> first | exact (hF rfl).elim | exact uz (hnt _ (by simp [Op.operands])) (hd _ rfl)
    | move y =>
      cases y <;> cases dst <;> first | exact (hF rfl).elim | skip
      rename_i s d0
      cases hm:mv d0 with
      | false=>exact (hF (by simp [isF,hm])).elim
      | true =>
        simp only [exec,step,hm,if_true];exact uz (hnt _ (by simp [Op.operands])) (hd _ rfl)
    | extract y i =>
      cases y <;> cases dst <;> first | exact (hF rfl).elim | skip
      rename_i s d0
      cases hm:mv d0 with
      | false=>exact (hF (by simp [isF,hm])).elim
      | true =>
        simp only [exec,step,hm,if_true];split
        · rfl
        · exact aaC (hnt _ (by simp [Op.operands])) (hd _ rfl)
    | load t y =>
      cases dst with
      | none=>exact (hF rfl).elim
      | some d0 =>
        cases hm:mv d0 with
        | false=>exact (hF (by simp [isF,hm])).elim
        | true =>
          simp only [exec,step,hm,if_true];exact aaD (hne _ (by simp [Op.operands])) (hd _ rfl)
    | store t y z =>
      cases dst with
      | none=>exact zf (hne _ (by simp [Op.operands])) (hne _ (by simp [Op.operands]))
      | some d0=>rfl
    | alloc t =>
      cases dst with
      | none=>rfl
      | some d0=>exact yZ (hd _ rfl)
    | box t y =>
      cases dst with
      | none=>rfl
      | some d0=>exact acs (hne _ (by simp [Op.operands])) (hd _ rfl)
    | buildSlice t n parts =>
      cases dst with
      | none=>rfl
      | some d0=>exact (hF rfl).elim
    | call c =>
      obtain ⟨aa,args,ats⟩:=c;have ha:∀ y∈args.toList,y≠.tmp d:=fun y hy=>hne y (by simp only [Op.operands,Call.operands];exact Array.mem_append.2 (.inr (by simpa using hy)));cases aa with
      | value f =>
        cases f with
        | func f =>
          simp only [exec];cases hs:E.sum f with
          | some s=>exact (hF (by simp [isF,hs])).elim
          | none =>
            cases hw:E.nw f with
            | true=>exact wm (fun t ht e=>ha _ ht (by rw [e])) h2
            | false=>exact p9 (fun t ht e=>ha _ ht (by rw [e])) h2
        | tmp t =>
          have ht:t≠d:=hnt t (by simp [Op.operands,Call.operands]);simp only [exec];cases hm:mv (t+100000) with
          | true=>exact (hF (by simp [isF,hm])).elim
          | false => ?_
          show (((σ.tm.set d x)[t]?).bind cellOf?).bind _=_;rw [jF ht];simp only;cases (σ.tm[t]?).bind cellOf? with
          | none=>rfl
          | some f=>exact uG (fun t ht e=>ha _ ht (by rw [e])) h2
        | const v=>rfl
        | global q=>rfl
      | invoke r m=>exact (hF rfl).elim
      | builtin b =>
        cases b <;> first | exact (hF rfl).elim | skip
        · cases dst with
          | none=>rfl
          | some d0=>exact vY ha (hd _ rfl)
        · cases dst with
          | none=>exact lJ (l:=l) hne h2
          | some d0=>exact lJ (l:=l) hne h2
    | makeSlice=>exact lJ (l:=l) hne h2
    | makeMap=>exact lJ (l:=l) hne h2
    | mapUpdate=>exact lJ (l:=l) hne h2
    | _=>exact (hF rfl).elim
end
end
end Go.Proofs.YtcomnjodjijcmaaGreat.M

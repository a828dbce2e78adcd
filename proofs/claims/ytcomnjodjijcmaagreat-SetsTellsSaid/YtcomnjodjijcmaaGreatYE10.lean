/- Lemmas for laws of chapter 7: what the functions that they reach compute. No condition of its own. -/
import Derived.Shelf.Slices.CompactI
import Derived.Shelf.Slices.In.SortNone
import Derived.Shelf.Sort.AssemblyIn
import Derived.Test.YtcomnjodjijcmaaGreatProg
import Derived.Test.YtcomnjodjijcmaaGreatYE9
import Derived.Sort.EveryDepth
import Derived.Lib.AppendZeros
namespace Go.Proofs.YtcomnjodjijcmaaGreat.M
open Go.Shelf
def aa0:Go.Shelf.Ren:=⟨fun | 20=>83 | n=>n,fun | 22=>50 | 3=>3 | 4=>4 | 0=>0 | n=>n,fun | n=>n⟩
theorem afu:Go.Proofs.Lays2.n20 Tryz.prog aa0:={
  mixed:=by kernel_rfl
  f20:=Tryz.func83.trans (congrArg some (by kernel_rfl))
  t0:=Tryz.underlying0
  a0:=Tryz.isAgg0
  z0:=Tryz.sizeOf0
  v0:=Tryz.zeroValue0
  t3:=Tryz.underlying3
  a3:=Tryz.isAgg3
  z3:=Tryz.sizeOf3
  v3:=Tryz.zeroValue3
  t4:=Tryz.underlying4
  a4:=Tryz.isAgg4
  z4:=Tryz.sizeOf4
  v4:=Tryz.zeroValue4
  t22:=Tryz.underlying50
  a22:=Tryz.isAgg50
  z22:=Tryz.sizeOf50
  v22:=Tryz.zeroValue50
  i3:=by kernel_rfl }
def aa1:Go.Shelf.Ren:=⟨fun | 189=>82 | 125=>132 | 257=>131 | 128=>167 | 129=>168 | 294=>158 | 295=>159 | 296=>160 | 297=>161 | 298=>162 | 299=>163 | 216=>164 | 300=>165 | 301=>166 | 328=>174 | 329=>175 | 330=>176 | 331=>177 | 332=>178 | 215=>172 | 343=>181 | n=>n,fun | 28=>50 | 3=>3 | 46=>130 | 0=>0 | 51=>161 | 53=>138 | 4=>4 | 183=>154 | 182=>153 | 131=>104 | 5=>5 | 9=>9 | 218=>163 | 222=>167 | 228=>169 | 229=>100 | n=>n,fun | n=>n⟩
theorem afw:Go.Proofs.Lays.n189 Tryz.prog aa1:={
  mixed:=by kernel_rfl
  f125:=Tryz.func132.trans (congrArg some (by kernel_rfl))
  f128:=Tryz.func167.trans (congrArg some (by kernel_rfl))
  f129:=Tryz.func168.trans (congrArg some (by kernel_rfl))
  f189:=Tryz.func82.trans (congrArg some (by kernel_rfl))
  f215:=Tryz.func172.trans (congrArg some (by kernel_rfl))
  f216:=Tryz.func164.trans (congrArg some (by kernel_rfl))
  f257:=Tryz.func131.trans (congrArg some (by kernel_rfl))
  f294:=Tryz.func158.trans (congrArg some (by kernel_rfl))
  f295:=Tryz.func159.trans (congrArg some (by kernel_rfl))
  f296:=Tryz.func160.trans (congrArg some (by kernel_rfl))
  f297:=Tryz.func161.trans (congrArg some (by kernel_rfl))
  f298:=Tryz.func162.trans (congrArg some (by kernel_rfl))
  f299:=Tryz.func163.trans (congrArg some (by kernel_rfl))
  f300:=Tryz.func165.trans (congrArg some (by kernel_rfl))
  f301:=Tryz.func166.trans (congrArg some (by kernel_rfl))
  f328:=Tryz.func174.trans (congrArg some (by kernel_rfl))
  f329:=Tryz.func175.trans (congrArg some (by kernel_rfl))
  f330:=Tryz.func176.trans (congrArg some (by kernel_rfl))
  f331:=Tryz.func177.trans (congrArg some (by kernel_rfl))
  f332:=Tryz.func178.trans (congrArg some (by kernel_rfl))
  f343:=Tryz.func181.trans (congrArg some (by kernel_rfl))
  t0:=Tryz.underlying0
  a0:=Tryz.isAgg0
  z0:=Tryz.sizeOf0
  v0:=Tryz.zeroValue0
  t3:=Tryz.underlying3
  a3:=Tryz.isAgg3
  z3:=Tryz.sizeOf3
  v3:=Tryz.zeroValue3
  t4:=Tryz.underlying4
  a4:=Tryz.isAgg4
  z4:=Tryz.sizeOf4
  v4:=Tryz.zeroValue4
  t5:=Tryz.underlying5
  a5:=Tryz.isAgg5
  z5:=Tryz.sizeOf5
  v5:=Tryz.zeroValue5
  t9:=Tryz.underlying9
  a9:=Tryz.isAgg9
  z9:=Tryz.sizeOf9
  v9:=Tryz.zeroValue9
  t28:=Tryz.underlying50
  a28:=Tryz.isAgg50
  z28:=Tryz.sizeOf50
  v28:=Tryz.zeroValue50
  t46:=Tryz.underlying130
  a46:=Tryz.isAgg130
  z46:=Tryz.sizeOf130
  v46:=Tryz.zeroValue130
  t51:=Tryz.underlying161
  a51:=Tryz.isAgg161
  z51:=Tryz.sizeOf161
  v51:=Tryz.zeroValue161
  t53:=Tryz.underlying138
  a53:=Tryz.isAgg138
  z53:=Tryz.sizeOf138
  v53:=Tryz.zeroValue138
  t131:=Tryz.underlying104
  a131:=Tryz.isAgg104
  z131:=Tryz.sizeOf104
  v131:=Tryz.zeroValue104
  t182:=Tryz.underlying153
  a182:=Tryz.isAgg153
  z182:=Tryz.sizeOf153
  v182:=Tryz.zeroValue153
  t183:=Tryz.underlying154
  a183:=Tryz.isAgg154
  z183:=Tryz.sizeOf154
  v183:=Tryz.zeroValue154
  t218:=Tryz.underlying163
  a218:=Tryz.isAgg163
  z218:=Tryz.sizeOf163
  v218:=Tryz.zeroValue163
  t222:=Tryz.underlying167
  a222:=Tryz.isAgg167
  z222:=Tryz.sizeOf167
  v222:=Tryz.zeroValue167
  t228:=Tryz.underlying169
  a228:=Tryz.isAgg169
  z228:=Tryz.sizeOf169
  v228:=Tryz.zeroValue169
  t229:=Tryz.underlying100
  a229:=Tryz.isAgg100
  z229:=Tryz.sizeOf100
  v229:=Tryz.zeroValue100 }
end Go.Proofs.YtcomnjodjijcmaaGreat.M
namespace Go.Proofs.YtcomnjodjijcmaaGreat.M
noncomputable section
open Go.RowKit Go.Proofs.YtcomnjodjijcmaaGreatW.dz Go.Proofs.YtcomnjodjijcmaaGreatW.dX
def af5:List (Nat × (List AV→List Bx→Option (Bool × AV × List Bx))):=[(82,aeu),(83,sO)]
theorem aew:∀ p∈af5,aeU Tryz.prog p.1 p.2:=all_cons (acU ⟨Tryz.f82,Tryz.func82,by kernel_rfl,by kernel_rfl⟩ (fun blk off cap zs w hH hb hl=>calls_of_every_depth fun D=>AnyS.slices_Sort_int_in afw D blk off cap zs w hH hb hl) (fun p cap w=>Any.slices_Sort_int_none afw p cap w)) (all_cons (wK ⟨Tryz.f83,Tryz.func83,by kernel_rfl,by kernel_rfl⟩ (fun blk off cap zs w hH h1 h2=>Any.slices_Compact_int afu blk off cap zs w hH h1 h2) (fun a cap w=>Any.slices_Compact_int_empty afu a cap w)) all_nil)
end
end Go.Proofs.YtcomnjodjijcmaaGreat.M
namespace Go.Proofs.YtcomnjodjijcmaaGreat.M
noncomputable section
set_option linter.unusedVariables false
open Go.RowKit Go.Proofs.YtcomnjodjijcmaaGreatW.dz Go.Proofs.YtcomnjodjijcmaaGreatW.dX
theorem fH {β:Type} {L G:Nat→β} (T:β→Nat→β) (h0:L 0=G 0) (hL:∀ k,L (k+1)=T (L k) k) (hG:∀ k,G (k+1)=T (G k) k):∀ k,L k=G k
  | 0=>h0
  | k+1=>by rw [hL,hG,fH T h0 hL hG k]
def mkE (sm:List (Nat × Sm)) (nw:List Nat):oM:=⟨tL.tb,fun f=>lk f sm,fun f=>xS f nw,fun f=>lk f af5⟩
def mkA (mv:List Nat) (l x:List (Nat × List Nat)) (gh:List (Nat × List GOp × List GOp)):Ann:=⟨fun d=>xS d mv,fun c=>lk c l,fun c=>lk c x,fun _=>none,fun c=>(lk c gh).getD ([],[])⟩
def mkC {γ:Type} (E:Nat→oM) (fl:List (Nat × Func)) (an:List (Nat × Ann)) (lp:List (LpE γ)) (yd:List (YdE γ)):Ctx γ:=⟨E,fl,fun f=>(lk f an).getD (mkA [] [] [] []),lp,yd⟩
theorem iF {q:Prop} (h:false=true):q:=(Bool.false_ne_true h).elim
theorem okW {rs:List RT} {sm:Nat→List (Nat × Sm)} {nw:List Nat} {fl:List (Nat × Func)} {an:List (Nat × Ann)} {lp:List (LpE (sM rs))} {yd:List (YdE (sM rs))} (h:(mkC (fun k=>mkE (sm k) nw) fl an lp yd).Ok) (n:Nat) {f:Nat} (fn:Func) (k:Nat) {ts:List Ty} {F:mE ts→Option (sM rs)}
    (hN:∀ g∈nw,uQ Tryz.prog g) (hS:∀ k,∀ p∈sm k,iV Tryz.prog p.1 p.2.s) (hF:∀ p∈fl,Tryz.prog.funcs[p.1]? = some p.2∧(p.2.name == "runtime.NumGoroutine")=false) (hl:∀ e∈lp,gu (mkC (fun k=>mkE (sm k) nw) fl an lp yd) e)
    (aa:lk f fl=some fn) (hb:fn.body.isSome=true) (hw:∀ a:mE ts,(mkC (fun k=>mkE (sm k) nw) fl an lp yd).bK n f fn k (jD ts a) (K0 rs)=F a):iV Tryz.prog f (jd ts rs F).s :=
  acT (C:=mkC (fun k=>mkE (sm k) nw) fl an lp yd) h (n:=n) (fn:=fn) mixed (fun _=>aft) (ahU hN) (fun k f m h=>aew (f,m) (kC (l:=af5) (show lk f af5=some m from h))) (fun k=>aep (hS k)) hF hl aa hb (fun a x hx=>⟨k,(hw a).trans hx⟩)
theorem Ctx.Ok.jT {γ:Type} {C:Ctx γ} (h:C.Ok) {n f cur:Nat} (fn:Func) {l:List (PS × (HdK γ→Nat→(dQ→St→Option γ)→List Lf→Option γ))} (ins:List Nat) (hf:lk f C.fl=some fn)
    (hn:((kZ (lnd fn cur).c (lnd fn cur).cur).all fun p => !C.has f p.key || xS p.key ins)=true) (hin:(oh fn).any (fun p=>Nat.beq p.key cur)=true) (hl:∀ e∈C.lp,rkB n f ins e=true→gu C e)
    (he:∀ q∈l,∀ YK rl k ls K v,q.2 YK k K ls=some v→C.lK n f cur fn YK rl (q.1.mk' ls).bx.length k (q.1.mk' ls) K=some v):gu C ⟨n,f,cur,iD l⟩:=h.lpE ins hf hn hin hl he
end
end Go.Proofs.YtcomnjodjijcmaaGreat.M
namespace Go.Proofs.YtcomnjodjijcmaaGreat.R
open M Go.RowKit Go.Proofs.YtcomnjodjijcmaaGreatW.dz Go.Proofs.YtcomnjodjijcmaaGreatW.dX Go.Proofs.YtcomnjodjijcmaaGreatW.eD
set_option linter.unusedVariables false
set_option linter.unusedSimpArgs false
theorem aex {nb:Nat} {g:Gh} {W:World} {e:TypeId} {v:Value} (h:∀ fr' i',AVR nb g W fr' i' (.pt (.one (.ow e .gr []))) v):v=.slice none 0 0:=by
  obtain ⟨⟨A,c,hv,_,_⟩,⟨cs,h2⟩,h3⟩:CR nb g W (.tm 0 0 0 0) (.ow e .gr []) v:=h 0 0;obtain ⟨_,_,h4⟩:CR nb g W (.tm 1 0 0 0) (.ow e .gr []) v:=h 1 0;rcases h2.2 with ⟨e1,_⟩ | ⟨b,cap,cur,e1,_⟩
  · exact e1
  · have hb:v.ownBlock=some b:=by rw [e1];rfl
    have q1:=(h3 b hb).1;rw [(h4 b hb).1] at q1;cases q1
def dW.f (k:Nat) (n:Int):Option Unit:=if 0≤n then (if n≤8796093022208 then some () else none) else none
def dW.rd (k:Nat):List AV→Option (Option Unit)
  | [.pt (.one (.ow e .gr [])),.pt (.one (.v (.int .i64 n)))]=>match Nat.beq e 44 with
    | true=>some (dW.f k n)
    | false=>none
  | _=>none
def dW.m (k:Nat):Sm:=⟨Unit,dW.rd k,fun _=>.pt (.one (.ow 44 .gr []))⟩
theorem aey:(Tryz.prog.info? 44).map (fun i=>(i.zero,i.size,i.bytes))=some (some (.agg #[.int .i64 0,.slice none 0 0]),2,32):=by kernel_rfl
set_option maxRecDepth 100000 in
set_option maxHeartbeats 1000000 in
theorem dW.ok (k:Nat):iV Tryz.prog 130 (dW.m k).s:=by
  refine ⟨Tryz.f130,Tryz.func130,by kernel_rfl,by kernel_rfl,fun nb g W fr d ys vs r hw hl hy hs => ?_⟩;obtain ⟨o,ho,hr⟩:=Option.bind_eq_some_iff.mp hs;obtain ⟨x,hx,rfl⟩:=Option.map_eq_some_iff.mp hr;have ho:dW.rd k ys=some o:=ho;unfold dW.rd at ho;split at ho
  case h_2=>cases ho
  rename_i _ e n _
  split at ho
  case h_2=>cases ho
  rename_i he
  cases ho
  obtain rfl:e=44:=Nat.eq_of_beq_eq_true he;have hx:dW.f k n=some x:=hx;unfold dW.f at hx;split at hx
  case isFalse=>cases hx
  rename_i h0
  split at hx
  case isFalse=>cases hx
  rename_i h1
  obtain ⟨v,u,rfl⟩:∃ v u,vs=#[v,u]:=by
    have h2:vs.toList.length=2:=by simpa using hl.symm
    match hv:vs.toList,h2 with
    | [v,u],_=>exact ⟨v,u,Array.toList_inj.1 hv⟩
  obtain rfl:=aex (hy 0 _ v rfl rfl);obtain ⟨rfl,_⟩:CR nb g W (.tm 0 1 0 0) (.v (.int .i64 n)) u:=hy 1 _ u rfl rfl 0 1;show Calls _ _ _ _ fun e0 W'=>∃ v,e0=.returned v∧∃ g',Wf g' W'∧g'.lv=g.lv∧Evo (fun _=>True) nb g W g' W'∧CR nb g' W' (.tm fr d 0 0) (.ow 44 .gr []) v;have d1:decide (n<0)=false:=decide_eq_false (by omega);have w1:wrap64 n=n:=by unfold wrap64;omega
  by_cases hz:n=0
  · subst hz
    go_enter Tryz.func130,Tryz.ntmps130
    go_wp2
    go_ret
    exact ⟨_,rfl,g,hw,rfl,Evo.refl _ _ _ _,CR.nil⟩
  · have d2:decide (n>0)=true:=decide_eq_true (by omega)
    obtain ⟨m,rfl⟩:∃ m:Nat,n=(m:Int):=⟨n.toNat,by omega⟩;obtain ⟨i,hi,hq⟩:=Option.map_eq_some_iff.mp aey;simp only [Prod.mk.injEq] at hq;obtain ⟨hz1,hz2,hz3⟩:=hq;have hrun:=Lib.hid (Lib.run_append_nil_zeros (P:=Tryz.prog) W 23 3 23 44 i _ .i64 .i64 Tryz.underlying23 Tryz.underlying3 hi hz1 m (by omega) (by omega) (by omega) (by rw [hz3];omega));have hge:=grownCap_ge W m 0 44;have hml:=grownCap_le_maxLen W m 0 44 (by simp only [maxLen];omega);generalize hcc:grownCap W m 0 44=c at hrun hge hml;have hfin:∀ cur:Array Value,cur.size=c*2→∃ g',Wf g' (W.drew.alloc (.cells cur 44))∧g'.lv=g.lv∧Evo (fun _=>True) nb g W g' (W.drew.alloc (.cells cur 44))∧CR nb g' (W.drew.alloc (.cells cur 44)) (.tm fr d 0 0) (.ow 44 .gr []) (.slice (some ⟨W.heap.size,0,none⟩) 0 c):=fun cur hcur=>by
      obtain ⟨g',hg'⟩:∃ g':Gh,g'={ g with ow:=fun b=>if b=W.heap.size then some (.tm fr d 0 0) else g.ow b }:=⟨_,rfl⟩;refine ⟨g',?_,by rw [hg'],?_,⟨some ⟨W.heap.size,0,none⟩,c,rfl,Nat.zero_le _,fun i x hx=>by simp at hx⟩,⟨[],rfl,.inr ⟨W.heap.size,c,cur,rfl,Nat.zero_le _,heap_alloc_new W.drew _,Nat.zero_le _,hml,hcur,by simp⟩⟩,fun b hb => ?_⟩
      · subst hg'
        refine ⟨fun b o hp => ?_,fun b ℓ' hb => ?_⟩
        · have:=hw.pr b o hp;simp;omega
        · simp only at hb
          split at hb
          · simp;omega
          · have:=hw.ow b ℓ' hb;simp;omega
      · subst hg'
        exact ⟨rfl,rfl,rfl,by simp,fun b o hp=>⟨hp,fun v hv=>kK (W:=W.drew) hv⟩,fun b hb _=>⟨Below.heap_alloc W.drew _ _ hb,if_neg (by omega),fun o ho=>ho⟩,fun _ _ hv=>⟨hv,rfl,rfl,rfl⟩⟩
      · have:W.heap.size=b:=by simpa [Value.ownBlock] using hb
        subst this;subst hg';refine ⟨if_pos rfl,fun o ho => ?_⟩;have:=hw.pr _ _ ho;omega
    have hfin:=Lib.hid (hfin (Builtin.zeroCells (Value.agg #[.int .i64 0,.slice none 0 0]).cells m++Builtin.zeroCells (Value.agg #[.int .i64 0,.slice none 0 0]).cells (c - m)) (by
      rw [Array.size_append,size_zeroCells,size_zeroCells];show m*2+(c - m)*2=c*2;omega))
    clear hw hy hi hz1 hz2 hz3 hs ho hr hx hl;go_enter Tryz.func130,Tryz.ntmps130;go_wp2_with (at_builtin;refine Lib.wpList_append_run _ rfl _ _ _ _ rfl _ _ rfl rfl _ _ hrun.out ?_);go_ret;obtain ⟨g',k1,k2,k3,k4⟩:=hfin.out;exact ⟨_,rfl,g',k1,k2,k3,k4⟩
end Go.Proofs.YtcomnjodjijcmaaGreat.R
namespace Go.Proofs.YtcomnjodjijcmaaGreat.R
open M Go.RowKit Go.Proofs.YtcomnjodjijcmaaGreatW.dz Go.Proofs.YtcomnjodjijcmaaGreatW.dX Go.Proofs.YtcomnjodjijcmaaGreatW.eD
set_option linter.unusedVariables false
set_option linter.unusedSimpArgs false
def afy:List UInt8:=[117,110,105,111,110]
def agn:List UInt8:=[99,117,116]
def agp:List UInt8:=[108,101,115,115]
def iZ.rd (k:Nat):List AV→Option (Option FuncId)
  | [.pt (.one (.v (.string b)))]=>match oO b.data.toList afy with
    | true=>some (some 125)
    | false=>match oO b.data.toList agn with
      | true=>some (some 126)
      | false=>match oO b.data.toList agp with
        | true=>some (some 127)
        | false=>none
  | _=>none
def iZ.m (k:Nat):Sm:=⟨FuncId,iZ.rd k,fun f=>.pt (.one (.fn f []))⟩
theorem adz {W:World} (b:Bool) (s:ByteArray):(Instr.checkKey b 10000 9 (.string s)).run Tryz.prog W=.ok () W:=by
  rw [show (10000:Nat)=9999+1 from rfl,Instr.checkKey];simp only [Sem.run_bind,run_underlying Tryz.underlying9,Result.andThen_ok,Sem.run_pure]
theorem wL {W:World} {b ck:Nat} {es:Array MapEntry} (hh:W.heap[b]? = some (.map es ck)) (s:ByteArray) (v:Value) (hn:Instr.findNow .string (.string s) es.toList 0=some none) :
    (Instr.mapUpdate 125 (.map (some b)) (.string s) v).run Tryz.prog W=.ok () (W.putObj b (.map (es.push { key:=.string s,val:=v,born:=ck }) (ck+1))):=by
  have hf:(Instr.findKey 9 (.string s) es.toList).run Tryz.prog W=.ok none W:=by simp [Instr.findKey,Sem.run_bind,run_underlying Tryz.underlying9,hn]
  unfold Instr.mapUpdate;simp only [Sem.run_bind,run_underlying Tryz.underlying125,Result.andThen_ok,j4 hh,Sem.run_pure,adz,hf];simp only [setObj,Sem.run,hh];rfl
theorem aez {W:World} {b ck i:Nat} {es:Array MapEntry} (hh:W.heap[b]? = some (.map es ck)) (s:ByteArray) (v:Value) (hn:Instr.findNow .string (.string s) es.toList 0=some (some (i,v))) :
    (Instr.lookup 125 (.map (some b)) (.string s) false).run Tryz.prog W=.ok v W:=by
  have hf:(Instr.findKey 9 (.string s) es.toList).run Tryz.prog W=.ok (some (i,v)) W:=by simp [Instr.findKey,Sem.run_bind,run_underlying Tryz.underlying9,hn]
  unfold Instr.lookup;simp only [Sem.run_bind,run_underlying Tryz.underlying125,Result.andThen_ok,j4 hh,Sem.run_pure,adz,hf];rfl
set_option maxRecDepth 100000 in
set_option maxHeartbeats 1000000 in
theorem zH (b:ByteArray) (f:FuncId) (W:World) (i:Nat) (hi:Instr.findNow .string (.string b) [{ key:=.string ⟨#[117,110,105,111,110]⟩,val:=.func (.func 125) #[] #[],born:=0 },{ key:=.string ⟨#[99,117,116]⟩,val:=.func (.func 126) #[] #[],born:=1 },{ key:=.string ⟨#[108,101,115,115]⟩,val:=.func (.func 127) #[] #[],born:=2 }] 0=some (some (i,.func (.func f) #[] #[]))) :
    Calls Tryz.prog 77 #[.string b] W fun e W'=>e=.returned (.func (.func f) #[] #[])∧∃ es ck,W'=W.alloc (.map es ck):=by
  have h0:(W.alloc (.map #[] 0)).heap[W.heap.size]? = some (.map #[] 0):=heap_alloc_new _ _;have r1:=wL h0 ⟨#[117,110,105,111,110]⟩ (.func (.func 125) #[] #[]) rfl;have put:∀ (o o':Obj),(W.alloc o).putObj W.heap.size o'=W.alloc o':=fun o o'=>by
    have e:(W.heap.push o).setIfInBounds W.heap.size o'=W.heap.push o':=by
      apply Array.ext_getElem?
      intro i;rw [Array.getElem?_setIfInBounds,Array.getElem?_push,Array.getElem?_push];by_cases h:W.heap.size=i
      · subst h;simp
      · rw [if_neg h,if_neg (fun e=>h e.symm)]
        rw [if_neg (fun e=>h e.symm)]
    unfold World.putObj World.alloc;simp [e]
  rw [put] at r1;have r2:=wL (heap_alloc_new W (.map #[{ key:=.string ⟨#[117,110,105,111,110]⟩,val:=.func (.func 125) #[] #[],born:=0 }] 1)) ⟨#[99,117,116]⟩ (.func (.func 126) #[] #[]) (by rfl);rw [put] at r2;have r3:=wL (heap_alloc_new W (.map #[{ key:=.string ⟨#[117,110,105,111,110]⟩,val:=.func (.func 125) #[] #[],born:=0 },{ key:=.string ⟨#[99,117,116]⟩,val:=.func (.func 126) #[] #[],born:=1 }] 2)) ⟨#[108,101,115,115]⟩ (.func (.func 127) #[] #[]) (by rfl);rw [put] at r3;have r4:=aez (heap_alloc_new W (.map #[{ key:=.string ⟨#[117,110,105,111,110]⟩,val:=.func (.func 125) #[] #[],born:=0 },{ key:=.string ⟨#[99,117,116]⟩,val:=.func (.func 126) #[] #[],born:=1 },{ key:=.string ⟨#[108,101,115,115]⟩,val:=.func (.func 127) #[] #[],born:=2 }] 3)) b _ hi;have r0:(Instr.makeMap 125 none).run Tryz.prog W=.ok (.map (some W.heap.size)) (W.alloc (.map #[] 0)):=rfl;clear hi h0;go_enter Tryz.func77,Tryz.ntmps77;go_wp2;go_ret;exact ⟨rfl,_,_,rfl⟩
theorem iZ.ok (k:Nat):iV Tryz.prog 77 (iZ.m k).s:=by
  refine ⟨Tryz.f77,Tryz.func77,by kernel_rfl,by kernel_rfl,fun nb g W fr d ys vs r hw hl hy hs => ?_⟩;obtain ⟨o,ho,hr⟩:=Option.bind_eq_some_iff.mp hs;obtain ⟨f,hx,rfl⟩:=Option.map_eq_some_iff.mp hr;subst hx;have fin:∀ (b:ByteArray) (f:FuncId) (i:Nat),ys=[.pt (.one (.v (.string b)))]→Instr.findNow .string (.string b) [{ key:=.string ⟨#[117,110,105,111,110]⟩,val:=.func (.func 125) #[] #[],born:=0 },{ key:=.string ⟨#[99,117,116]⟩,val:=.func (.func 126) #[] #[],born:=1 },{ key:=.string ⟨#[108,101,115,115]⟩,val:=.func (.func 127) #[] #[],born:=2 }] 0=some (some (i,.func (.func f) #[] #[])) →
      Calls Tryz.prog 77 vs W fun e W'=>∃ v,e=.returned v∧∃ g',Wf g' W'∧g'.lv=g.lv∧Evo (fun _=>True) nb g W g' W'∧AVR nb g' W' fr d (.pt (.one (.fn f []))) v:=fun b f i e hi=>by
    subst e;have h2:vs.toList.length=1:=by simpa using hl.symm
    obtain ⟨v,rfl⟩:∃ v,vs=#[v]:=by
      match hv:vs.toList,h2 with
      | [v],_=>exact ⟨v,Array.toList_inj.1 hv⟩
    obtain ⟨rfl,_⟩:CR nb g W (.tm 0 0 0 0) (.v (.string b)) v:=hy 0 _ v rfl rfl 0 0;refine (zH b f W i hi).mono ?_;rintro e W' ⟨rfl,es,ck,rfl⟩;obtain ⟨k1,k2⟩:=vv (A:=fun _=>True) (nb:=nb) hw ((Below.refl W.heap.size W).alloc (Nat.le_refl _) (.map es ck));exact ⟨_,rfl,g,k1,rfl,k2,fun l hl=>by simp at hl,rfl⟩
  have ho:iZ.rd k ys=some (some f):=ho;unfold iZ.rd at ho;split at ho
  case h_2=>cases ho
  rename_i b _
  have aa:∀ {l:List UInt8},oO b.data.toList l=true→b=⟨l.toArray⟩:=fun h=>by
    have:=qo h;cases b;simp only at this;subst this;rfl
  split at ho
  · rename_i h
    cases ho
    have:=aa h;subst this;exact fin _ _ 0 rfl rfl
  · split at ho
    · rename_i h
      cases ho
      have:=aa h;subst this;exact fin _ _ 1 rfl rfl
    · split at ho
      · rename_i h
        cases ho
        have:=aa h;subst this;exact fin _ _ 2 rfl rfl
      · cases ho
end Go.Proofs.YtcomnjodjijcmaaGreat.R
namespace Go.Proofs.YtcomnjodjijcmaaGreat.R
open M Go.RowKit Go.Proofs.YtcomnjodjijcmaaGreatW.dz Go.Proofs.YtcomnjodjijcmaaGreatW.dX Go.Proofs.YtcomnjodjijcmaaGreatW.eD
set_option linter.unusedVariables false
set_option linter.unusedSimpArgs false
theorem ak1:tL.tb.el 23=some (44,.gr,32):=by kernel_rfl
def agL.f (k:Nat) (a0:List P.S44):Option (List P.S44):=if a0.length≤4398046511104 then some a0 else none
def agL.m (k:Nat):Sm:=jd [.sl 44 .gr] [.own 44 .gr] (fun a=>agL.f k a.1)
set_option maxRecDepth 100000 in
set_option maxHeartbeats 1000000 in
theorem agL.ok (k:Nat):iV Tryz.prog 114 (agL.m k).s:=by
  refine aer (e:=44) (t:=.gr) (F:=agL.f k) Tryz.func114 (by kernel_rfl) (by kernel_rfl) (fun nb g W ℓ A c xs x hw hc hrow hx => ?_);unfold agL.f at hx;split at hx
  case isFalse=>cases hx
  rename_i hm
  cases hx
  cases A with
  | none =>
    have hn:xs=[]:=by
      cases xs with
      | nil=>rfl
      | cons y r=>obtain ⟨b,o,vs,e1,_⟩:=hrow 0 y rfl;cases e1
    subst hn;have he:=Go.run_eql_slice_nil (P:=Tryz.prog) W 23 44 none 0 c Tryz.underlying23;go_enter Tryz.func114,Tryz.ntmps114;go_wp2;go_ret;exact ⟨_,rfl,g,hw,Evo.refl _ _ _ _,CR.nil⟩
  | some ad =>
    have he:=Go.run_eql_slice_nil (P:=Tryz.prog) W 23 44 (some ad) xs.length c Tryz.underlying23;obtain ⟨g1,hw1,hv1,hc1,hl1⟩:=aas (nb:=nb) hw (e:=44) (k:=.gr) (xs:=[]) (news:=[]) (Nat.zero_le _) rfl (fun i x hx=>by simp at hx) ℓ;obtain ⟨v',W',g',hrun,hw',hv',hc',hl'⟩:=qV (ty:=23) (nb:=nb) (P:=Tryz.prog) (T:=tL.tb) aft hw1 ak1 (ℓd:=ℓ) (z0:=true) hc1 (ys:=xs) (y:=.slice (some ad) xs.length c) ⟨some ad,c,rfl,hc,hrow.mono (Ty.jr hv1.cp .gr) hv1.cp⟩ (by simpa using hm);have hfin:=Lib.hid (⟨hw',(hv1.weaken (fun ℓ h=>h.elim) (Nat.le_refl _)).trans (hv'.weaken (fun ℓ h=>h.elim) (Nat.le_refl _)) (Nat.le_refl _),hc'⟩:Wf g' W'∧Evo (fun _=>False) nb g W g' W'∧CR nb g' W' ℓ (.ow 44 .gr ([]++xs)) v');have hrun':=Lib.hid hrun;clear hrow hw1 hv1 hc1 hl1 hw' hv' hc' hl' hrun hw hm;go_enter Tryz.func114,Tryz.ntmps114;go_wp2_with (at_builtin;refine wpList_append_run rfl _ _ 23 rfl _ _ rfl rfl v' W' hrun'.out ?_);go_ret;obtain ⟨k1,k2,k3⟩:=hfin.out;exact ⟨_,rfl,g',k1,k2,k3⟩
end Go.Proofs.YtcomnjodjijcmaaGreat.R

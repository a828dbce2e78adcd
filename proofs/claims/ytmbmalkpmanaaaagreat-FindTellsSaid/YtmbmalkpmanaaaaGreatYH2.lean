/- Lemmas for laws of chapter 7: what the functions that they reach compute. No condition of its own. -/
import Derived.RangeFuncBox
import Derived.RangeFuncLeaves
import Derived.RangeFuncCalls
import Derived.Shelf.Abstract
import Derived.Test.YtmbmalkpmanaaaaGreatProg
import Derived.Below
import Derived.Deep.Draws
import Derived.Deep.AppendLies
import Derived.Maps.AppendAt
import Derived.OwnWalk
import Derived.Laws.BytesArg
import Derived.Laws.MakeOwn
import Derived.Laws.OwnMore
import Derived.Deep.OwnRows
import Derived.Tactics
import Derived.Lib.ConvBytes
import Derived.Laws.Slices
import Derived.WalkKit
import Derived.KernelRfl
import Derived.RowKit3
import Derived.Deep.LoopGhost
import Derived.Deep.QuietTactic
import Derived.BigQuiet
import Derived.WideLaws
import Derived.Deep.DeepCutAuto
import Derived.Deep.CutBlock
import Derived.Deep.RegionHeld3
import Derived.Laws.Rows
import Derived.Lib.AppendStr
import Derived.ArgAppend
import Derived.Laws.IdiomCopy
import Derived.OrdersHeld
import Derived.Laws.BitsLemmas
import Derived.RowKit
import Derived.Test.YtmbmalkpmanaaaaGreatYH1
import Derived.RangeFuncNested
import Derived.RangeFuncBound
import Derived.Shelf.RegionOpen
import Derived.OwnWalkIn
import Derived.Lib.Hide
import Derived.Outline
import Derived.TacticsInMore
import Derived.LoopNIn
import Derived.LoopIn
import Derived.Sort.LoopGhostIn
import Derived.Sort.QuietTacIn
import Derived.Sort.BigQuietIn
import Derived.WalkSpells
import Derived.Lib.LazyBuf
import Derived.Laws.CopyOwn
import Derived.RangeFuncOwn
import Derived.Deep.DeepMust
import Derived.Laws.EntriesVeiled
namespace Go.Proofs.YtmbmalkpmanaaaaGreat.zo
set_option linter.unusedVariables false
set_option linter.unusedSimpArgs false
open Go Go.RowKit
variable {F:Fence} {n:Nat} {P:Program}
def Still {β:Type} (Pv:Nat→Prop) (J:β→World→Prop):Prop :=
  ∀ s W W' row,J s W→W.grownBy W' row→(∀ r,row=some r→Pv r∧∃ o:Obj,W.heap[r]? = some o∧o.isCells=true)→J s W'
def aaQ {α:Type} (F:Fence) (n:Nat) (P:Program) (g:Nat) (lb:Array Value) (encs:α→Array Value) (Kp:World→World→Prop) (Pv:Nat→Prop) (S:List α→Prop) (N:Nat) (w:World):Prop :=
  ∀ (l:Nat) (J:List α→World→Prop) (W:World),Below w.heap.size w W→Still Pv J →
    (∀ pre x W1,J pre W1→pre.length<N→YieldAt F (n - 1) P l (encs x) W1 fun e W'=>e=.returned (.bool true)∧J (pre++[x]) W'∧Kp W1 W') →
    J [] W →
    CallsIn F n P g (#[.func (.yield l) #[] #[]]++lb) W fun e W'=>(∃ v,e=.returned v)∧∃ xs,S xs∧J xs W'
def Mine {β:Type} (B:Nat) (Pv:Nat→Prop) (I:β→World→Prop):Prop :=
  ∀ s W W' row,I s W→W.grownBy W' row→(∀ r,row=some r→(B≤r∧∃ o:Obj,W.heap[r]? = some o∧o.isCells=false)∨Pv r)→I s W'
theorem Mine.putObj {β:Type} {B:Nat} {Pv:Nat→Prop} {I:β→World→Prop} (h:Mine B Pv I) {s:β} {W:World} {l:Nat} {o:Obj} (o':Obj) (hs:I s W) (hB:B≤l) (hl:W.heap[l]? = some o) (ho:o.isCells=false):I s (W.putObj l o') :=
  h s W _ (some l) hs (grownBy_putObj' W l o') (fun r e=>by cases e;exact .inl ⟨hB,o,hl,ho⟩)
theorem Mine.alloc {β:Type} {B:Nat} {Pv:Nat→Prop} {I:β→World→Prop} (h:Mine B Pv I) {s:β} {W:World} (o:Obj) (hs:I s W):I s (W.alloc o) :=
  h s W _ none hs (World.grownBy_alloc W o none) (fun r e=>by cases e)
def roundPost {α:Type} (B:Nat) (Kp:World→World→Prop) (I:List α→World→Prop) (xs:List α) (W:World):Exit→Act→World→Prop
  | .normal,_,W'=>KeepsFrom B W W'∧Kp W W'∧I xs W'
  | _,_,_=>False
theorem zU {α:Type} {g:Operand} {ps:Array Tmp} {assign body:Code} {Q:Exit→Act→World→Prop} {a:Act} {w:World}
    (hro:F.round=none) (h1:1≤n) {gf:Nat} {lb:Array Value} (hg:a.eval g=.func (.func gf) #[] lb) (hFg:F.fn gf) (eg:∀ args w,(callFunc gf args).run P w=.ok (.enter gf args) w)
    {encs:α→Array Value} {Kp:World→World→Prop} {Pv:Nat→Prop} {S:List α→Prop} {N:Nat} {w0:World} (hseq:aaQ F (n - 1) P gf lb encs Kp Pv S N w0)
    (hKt:∀ {A B C:World},Kp A B→Kp B C→Kp A C) (hKb:∀ (W:World) (l:Nat) (o o':Obj),w.heap.size≤l→W.heap[l]? = some o→o.isCells=false→o.isWalk=false→Kp W (W.putObj l o')) (hb0:Below w0.heap.size w0 w) (hps:∀ x,(encs x).size=ps.size)
    (I:List α→World→Prop) (hI:Mine w.heap.size Pv I) (h0:I [] w) (Ax:List α→α→Act→World→Prop) (hAx:∀ pre x,Mine w.heap.size Pv (Ax pre x))
    (hassign:∀ (l:Nat) (pre:List α) (x:α) (W:World) (K:Act→World→Prop),I pre W→(∀ a' W',KeepsFrom w.heap.size W W'→Kp W W'→Ax pre x a' W'→K a' W') →
      assign.wpIn (F.inRound l) (n - 1 - 1) P (Exit.then K (fun _ _ _=>False)) { tmps:=(ps.zip (encs x)).foldl (fun t (p,v)=>t.setIfInBounds p v) a.tmps,defers:=[] } W)
    (hbody:∀ (l:Nat) (pre:List α) (x:α) (a':Act) (W:World),Ax pre x a' W→pre.length<N→body.wpIn (F.inRound l) (n - 1 - 1) P (roundPost w.heap.size Kp I (pre++[x]) W) a' W)
    (hdone:∀ (D:Nat) (xs:List α) (W:World),w.heap.size≤D→S xs→I xs W→W.heap[D]? = some (.deferred (some []))→Q .normal { a with defers:={ target:=.collected D,args:=#[] } :: a.defers } W) :
    (Code.rangeFunc g ps assign body).wpIn F n P Q a w:=by
  refine wpIn_rangeFunc ?_;intro fn hfn;rw [hro];obtain ⟨rec,hrec⟩:∃ rec:LoopState→Option Code→Loop,rec=fun st pe=>{ state:=st,pending:=pe,fn,tmps:=a.tmps,params:=ps,assign,body,defers:=w.heap.size }:=⟨_,rfl⟩;obtain ⟨W1,hW1⟩:∃ W1,(w.alloc (.deferred (some []))).alloc (.loop (rec .ready none))=W1:=⟨_,rfl⟩;have hL1:W1.heap[w.heap.size+1]? = some (.loop (rec .ready none)):=by
    rw [← hW1];have:=World.alloc_heap_new (w.alloc (.deferred (some []))) (.loop (rec .ready none));rwa [World.size_alloc] at this
  have hK1:W1.heap[w.heap.size]? = some (.deferred (some [])):=by
    rw [← hW1];exact (Below.heap_alloc _ _ _ (by simp)).trans (World.alloc_heap_new w _)
  have hI1:I [] W1:=by rw [← hW1];exact hI.alloc _ (hI.alloc _ h0)
  have hb1:Below w0.heap.size w0 W1:=by
    rw [← hW1];exact hb0.trans ((((Below.refl _ w).alloc (Nat.le_refl _) _).alloc (by simp) _).mono hb0.size)
  refine ⟨w.heap.size+1,[{ target:=.collected w.heap.size,args:=#[] }],W1,{ target:=.fn (.func gf) lb,args:=#[.func (.yield (w.heap.size+1)) #[] #[]] },W1,gf,
    #[.func (.yield (w.heap.size+1)) #[] #[]]++lb,W1,?_,?_,?_,?_,fun _=>h1,?_⟩
  · rw [← hW1,hrec];exact run_enterLoop_outer _ _ _ _ _
  · simp only [resolve,hg]
    simp [go_sem]
  · intro f' hf';simp [Target.leads] at hf';subst hf';exact hFg
  · simp [invoke,go_sem,eg]
  · -- a block that is cells is neither the loop's record nor the block of its deferred calls
    have far:∀ {A B:World} {row:Option Nat} {k:Nat} {o:Obj},A.grownBy B row→(∀ r,row=some r→Pv r∧∃ q:Obj,A.heap[r]? = some q∧q.isCells=true)→A.heap[k]? = some o→o.isCells=false→B.heap[k]? = some o:=by
      intro A B row k o hg' hr hk ho;refine (hg'.block k (Array.getElem?_eq_some_iff.1 hk).1 (fun e => ?_)).trans hk;obtain ⟨_,q,hq,hc⟩:=hr k e.symm;rw [hk] at hq;cases hq;rw [ho] at hc;cases hc
    refine (hseq (w.heap.size+1)
      (fun pre W=>I pre W∧W.heap[w.heap.size+1]? = some (.loop (rec .ready none))∧W.heap[w.heap.size]? = some (.deferred (some [])))
      W1 hb1 ?_ ?_ ⟨hI1,hL1,hK1⟩).mono ?_
    · exact fun s A B row hs hg' hr=>⟨hI s A B row hs.1 hg' (fun r e=>.inr (hr r e).1),far hg' hr hs.2.1 rfl,far hg' hr hs.2.2 rfl⟩
    · -- one round
      rintro pre x W ⟨hi,hl,hk⟩ hlen;have hlt:w.heap.size+1<W.heap.size:=(Array.getElem?_eq_some_iff.1 hl).1;have hy:=run_yield (P:=P) (args:=encs x) hl (by rw [hrec];exact hps x);rw [hrec] at hy;refine ⟨fn,_,assign,body,hy,roundIn_of_wpIn hfn (hassign _ pre x W _ hi ?_)⟩;rintro a' Wa hka hkpa hia;have hla:Wa.heap[w.heap.size+1]? = some (.loop (rec .ready none)):=hka.same _ _ (by omega) hl rfl;have hkk:Wa.heap[w.heap.size]? = some (.deferred (some [])):=hka.same _ _ (Nat.le_refl _) hk rfl;have aa:w.heap.size+1<Wa.heap.size:=(Array.getElem?_eq_some_iff.1 hla).1;have hw3:Kp Wa (Wa.putObj (w.heap.size+1) (.loop { rec .ready none with state:=.busy })):=hKb _ _ _ _ (by omega) hla rfl rfl;refine ⟨_,run_beginRound hla (by rw [hrec]),?_⟩;have hl2:(Wa.putObj (w.heap.size+1) (.loop { rec .ready none with state:=.busy })).heap[w.heap.size+1]? = some (.loop { rec .ready none with state:=.busy }):=World.putObj_heap_same aa;have hk2:(Wa.putObj (w.heap.size+1) (.loop { rec .ready none with state:=.busy })).heap[w.heap.size]? = some (.deferred (some [])):=(World.putObj_heap_other (by omega)).trans hkk;refine wpIn_mono (hbody _ pre x _ _ ((hAx pre x).putObj _ hia (by omega) hla rfl) hlen) ?_;rintro e a3 W3 hp;cases e with
      | normal =>
        obtain ⟨hk3,hkp3,hi3⟩:=hp;have hl3:=hk3.same _ _ (by omega) hl2 rfl;have hr:=run_endRound (P:=P) none hl3;rw [hrec] at hr hl3;refine ⟨_,_,hr,rfl,⟨hI.putObj _ hi3 (by omega) hl3 rfl,?_,?_⟩,hKt (hKt hkpa hw3) (hKt hkp3 (hKb _ _ _ _ (by omega) hl3 rfl rfl))⟩
        · rw [hrec];exact World.putObj_heap_same (Array.getElem?_eq_some_iff.1 hl3).1
        · exact (World.putObj_heap_other (by omega)).trans (hk3.same _ _ (Nat.le_refl _) hk2 rfl)
      | ret=>exact hp.elim
      | exit id=>exact hp.elim
      | goto t=>exact hp.elim
      | panic ch=>exact hp.elim
      | outgrown=>exact hp.elim
    · -- behind the iterator
      rintro e W2 ⟨⟨v,rfl⟩,xs,hS,hi,hl,hk⟩;exact ⟨none,_,by have:=run_endLoop (P:=P) hl (by rw [hrec];simp);rw [hrec] at this;exact this,hdone _ xs _ (Nat.le_refl _) hS (hI.putObj _ hi (by omega) hl rfl) ((World.putObj_heap_other (by omega)).trans hk)⟩
end Go.Proofs.YtmbmalkpmanaaaaGreat.zo
namespace Go.Proofs.YtmbmalkpmanaaaaGreat.P
open Go.RowKit Go.Proofs.YtmbmalkpmanaaaaGreatW.iD Go.Proofs.YtmbmalkpmanaaaaGreatW.jA Go.Proofs.YtmbmalkpmanaaaaGreatW.jw
attribute [local go_sem] lS lT mG mH kU kV lU lV   -- for this text's walks alone
set_option linter.unusedVariables false
set_option linter.unusedSimpArgs false
def aff:Option Int→Value
  | none=>.nilIface
  | some c=>.iface 0 (.int .i64 c)
theorem jV:aff none=.nilIface:=rfl
theorem jW (c:Int):aff (some c)=.iface 0 (.int .i64 c):=rfl
theorem info3:(Tryz.prog.info? 3).map (fun i=>(i.zero,i.size,i.bytes))=some (some (.int .i64 0),1,8):=by kernel_rfl
theorem zq:(Tryz.prog.info? 27).map (fun i=>(i.zero,i.size,i.bytes))=some (some (.slice none 0 0),1,24):=by kernel_rfl
theorem uj:(Tryz.prog.info? 38).map (fun i=>(i.zero,i.size,i.bytes))=some (some (.agg #[(.int .i64 0),(.int .i64 0)]),2,16):=by kernel_rfl
theorem aem:(Tryz.prog.info? 50).map (fun i=>(i.zero,i.size,i.bytes))=some (some (.agg #[(.int .i64 0),(.slice none 0 0)]),2,32):=by kernel_rfl
structure S38 where
  f0:Int
  f1:Int
def z38:S38:=⟨(0:Int),(0:Int)⟩
def k38:Kd S38:=Kd.iso (Kd.pair (Kd.int .i64) (Kd.int .i64)) (fun x:S38=>(x.f0,x.f1))
theorem qF:Kd.Heap k38:=Kd.zl _ (Kd.xD (Kd.vX .i64) (Kd.vX .i64))
theorem abY {w:World} {x:S38} {cs:List Value} (h:k38.K w x cs):cs=[.int .i64 x.f0,.int .i64 x.f1]:=by
  obtain ⟨_,_,rfl,rfl,rfl⟩:=h;exact rfl
theorem qR {w:World} {base:Nat} {ok:Nat→Prop} {x:S38} {cs:List Value} (h:k38.M w base ok x cs):cs=[.int .i64 x.f0,.int .i64 x.f1]:=by
  obtain ⟨_,_,rfl,rfl,rfl⟩:=h;exact rfl
theorem acH (w:World) (x:S38)  : k38.K w x [.int .i64 x.f0,.int .i64 x.f1]:=⟨[.int .i64 x.f0],[.int .i64 x.f1],rfl,rfl,rfl⟩
theorem oV (w:World) (base:Nat) (ok:Nat→Prop) (x:S38)  : k38.M w base ok x [.int .i64 x.f0,.int .i64 x.f1]:=⟨[.int .i64 x.f0],[.int .i64 x.f1],rfl,rfl,rfl⟩
def gN (xs:List S38) (i:Int):S38:=xs.getD i.toNat z38
theorem j5 {w:World} {A:Option Addr} {n:Nat} {xs:List S38} (h:Kd.C k38 w A n xs) (i:Int) (h0:0≤i) (h1:i<n):∃ ad , A=some ad∧w.cell? (ad.add (i.toNat*2))=some (.int .i64 (gN xs i).f0)∧w.cell? ⟨(ad.add (i.toNat*2)).block,(ad.add (i.toNat*2)).off+1,none⟩=some (.int .i64 (gN xs i).f1):=by
  obtain ⟨ad,c,e,_,hK,hc0⟩:=Kd.zM h z38 i h0 h1;have hc:∀ j u,c[j]? = some u→w.cell? (ad.add (i.toNat*2+j))=some u:=hc0;obtain rfl:=abY hK;exact ⟨ad,e,hc 0 _ rfl,by rw [← pQ _ _ 1 (by omega)];exact hc 1 _ rfl⟩
def jr (xs:List (List S38)) (i:Int):(List S38):=xs.getD i.toNat ([]:List S38)
theorem nS {w:World} {A:Option Addr} {n:Nat} {xs:List (List S38)} (h:Kd.C (Kd.slice 38 k38) w A n xs) (i:Int) (h0:0≤i) (h1:i<n):∃ ad A0 c0,A=some ad∧w.cell? (ad.add i.toNat)=some (.slice A0 (jr xs i).length c0)∧(jr xs i).length≤c0∧k38.C w A0 (jr xs i).length (jr xs i):=by
  obtain ⟨ad,c,e,_,hK,hc0⟩:=Kd.zM h ([]:List S38) i h0 h1;have hc:∀ j u,c[j]? = some u→w.cell? (ad.add (i.toNat*1+j))=some u:=hc0;obtain ⟨A0,c0,rfl,l0,g0⟩:=hK;exact ⟨ad,A0,c0,e,by have hq:=hc 0 _ rfl;rwa [Nat.mul_one,Nat.add_zero] at hq,l0,g0⟩
structure S50 where
  f0:Int
  f1:(List S38)
def z50:S50:=⟨(0:Int),([]:List S38)⟩
def k50:Kd S50:=Kd.iso (Kd.pair (Kd.int .i64) (Kd.slice 38 k38)) (fun x:S50=>(x.f0,x.f1))
theorem su:Kd.Heap k50:=Kd.zl _ (Kd.xD (Kd.vX .i64) (Kd.oU 38 qF))
theorem wu {w:World} {x:S50} {cs:List Value} (h:k50.K w x cs):∃ A1 c1,cs=[.int .i64 x.f0,.slice A1 x.f1.length c1]∧x.f1.length≤c1∧k38.C w A1 x.f1.length x.f1:=by
  obtain ⟨_,_,rfl,rfl,⟨A1,c1,rfl,l1,g1⟩⟩:=h;exact ⟨A1,c1,rfl,l1,g1⟩
theorem acI (w:World) (x:S50) {A1:Option Addr} {c1:Nat} (l1:x.f1.length≤c1) (g1:k38.C w A1 x.f1.length x.f1):k50.K w x [.int .i64 x.f0,.slice A1 x.f1.length c1]:=⟨[.int .i64 x.f0],[.slice A1 x.f1.length c1],rfl,rfl,⟨A1,c1,rfl,l1,g1⟩⟩
theorem ado (w:World) (base:Nat) (ok:Nat→Prop) (x:S50) {v1:Value} (g1:k38.R 38 w base ok v1 x.f1):k50.M w base ok x [.int .i64 x.f0,v1]:=⟨[.int .i64 x.f0],[v1],rfl,rfl,⟨v1,rfl,g1⟩⟩
theorem sw {W:World} {ok:Nat→Prop} {x:S50} {cs:List Value} (h:Kd.FK k50 W ok x cs):∃ A1 c1,cs=[.int .i64 x.f0,.slice A1 x.f1.length c1]∧x.f1.length≤c1∧Kd.F k38 W ok A1 x.f1.length x.f1:=by
  obtain ⟨A1,c1,rfl,l1,_⟩:=wu (Kd.uN h);exact ⟨A1,c1,rfl,l1,(fun W' hW=>by obtain ⟨aa,ab,he,af,ac⟩:=wu (h W' hW);injection (Option.some.inj (show some (Value.slice A1 x.f1.length c1)=some (Value.slice aa x.f1.length ab) from congrArg (fun l=>l[1]?) he)) with ae _ _;rw [ae];exact ac)⟩
theorem adp (W:World) (ok:Nat→Prop) (x:S50) {A1:Option Addr} {c1:Nat} (l1:x.f1.length≤c1) (g1:Kd.F k38 W ok A1 x.f1.length x.f1):Kd.FK k50 W ok x [.int .i64 x.f0,.slice A1 x.f1.length c1]:=fun W2 hW=>acI W2 x l1 (g1 W2 hW)
def gW (xs:List S50) (i:Int):S50:=xs.getD i.toNat z50
theorem kZ {w:World} {A:Option Addr} {n:Nat} {xs:List S50} (h:Kd.C k50 w A n xs) (i:Int) (h0:0≤i) (h1:i<n):∃ ad A1 c1,A=some ad∧w.cell? (ad.add (i.toNat*2))=some (.int .i64 (gW xs i).f0)∧w.cell? ⟨(ad.add (i.toNat*2)).block,(ad.add (i.toNat*2)).off+1,none⟩=some (.slice A1 (gW xs i).f1.length c1)∧(gW xs i).f1.length≤c1∧k38.C w A1 (gW xs i).f1.length (gW xs i).f1:=by
  obtain ⟨ad,c,e,_,hK,hc0⟩:=Kd.zM h z50 i h0 h1;have hc:∀ j u,c[j]? = some u→w.cell? (ad.add (i.toNat*2+j))=some u:=hc0;obtain ⟨A1,c1,rfl,l1,g1⟩:=wu hK;exact ⟨ad,A1,c1,e,hc 0 _ rfl,by rw [← pQ _ _ 1 (by omega)];exact hc 1 _ rfl,l1,g1⟩
structure S25 where
  f0:Int
  f1:Int
  f2:(List (List S38))
  f3:(List S50)
def z25:S25:=⟨(0:Int),(0:Int),([]:List (List S38)),([]:List S50)⟩
end Go.Proofs.YtmbmalkpmanaaaaGreat.P
namespace Go.Proofs.YtmbmalkpmanaaaaGreat.P
set_option linter.unusedVariables false
set_option linter.unusedSimpArgs false
open Go.RowKit
abbrev Sp:=S38
structure Bd where
  at_:Int
  a:Bool
  b:Bool
def sD:List Sp→Bool→Int
  | [],_=>0
  | s :: _,true=>wrap64 (s.f1+1)
  | s :: _,false=>s.f0
def l6:List Sp→Bool→Int→List Sp × Bool
  | [],i,_=>([],i)
  | s :: r,true,t=>if wrap64 (s.f1+1)=t then (r,false) else (s :: r,true)
  | s :: r,false,t=>if s.f0=t then (s :: r,true) else (s :: r,false)
def atL (a:List Sp) (ia:Bool) (b:List Sp) (ib:Bool):Int :=
  if a=[] then sD b ib else if b=[] then sD a ia else min (sD a ia) (sD b ib)
def msr (l:List Sp) (i:Bool):Nat:=2*l.length - (if i then 1 else 0)
theorem zu (l:List Sp) (i:Bool) (t:Int):msr (l6 l i t).1 (l6 l i t).2≤msr l i:=by
  match l,i with
  | [],i=>simp [l6,msr]
  | s :: r,true=>simp only [l6];split <;> simp [msr];omega
  | s :: r,false=>simp only [l6];split <;> simp [msr]
theorem zw (l:List Sp) (i:Bool) (hl:l≠[]):msr (l6 l i (sD l i)).1 (l6 l i (sD l i)).2<msr l i:=by
  match l,i with
  | [],i=>exact absurd rfl hl
  | s :: r,true=>simp [l6,sD,msr];omega
  | s :: r,false=>simp [l6,sD,msr];omega
theorem tH (a:List Sp) (ia:Bool) (b:List Sp) (ib:Bool) (h:¬ (a=[]∧b=[])) :
    msr (l6 a ia (atL a ia b ib)).1 (l6 a ia (atL a ia b ib)).2+msr (l6 b ib (atL a ia b ib)).1 (l6 b ib (atL a ia b ib)).2<msr a ia+msr b ib:=by
  have ha:=zu a ia (atL a ia b ib);have hb:=zu b ib (atL a ia b ib);have key:(a≠[]∧atL a ia b ib=sD a ia)∨(b≠[]∧atL a ia b ib=sD b ib):=by
    unfold atL;by_cases h1:a=[]
    · have h2:b≠[]:=fun e=>h ⟨h1,e⟩
      exact .inr ⟨h2,by rw [if_pos h1]⟩
    · by_cases h2:b=[]
      · exact .inl ⟨h1,by rw [if_neg h1,if_pos h2]⟩
      · rw [if_neg h1,if_neg h2]
        rcases Int.le_total (sD a ia) (sD b ib) with h3 | h3
        · exact .inl ⟨h1,by omega⟩
        · exact .inr ⟨h2,by omega⟩
  rcases key with ⟨hn,e⟩ | ⟨hn,e⟩
  · have:=zw a ia hn
    rw [e] at ha hb ⊢;omega
  · have:=zw b ib hn
    rw [e] at ha hb ⊢;omega
def qm (a:List Sp) (ia:Bool) (b:List Sp) (ib:Bool):List Bd :=
  if h:a=[]∧b=[] then [] else
    let t:=atL a ia b ib
    let p:=l6 a ia t
    let q:=l6 b ib t
    ⟨t,p.2,q.2⟩ :: qm p.1 p.2 q.1 q.2
termination_by msr a ia+msr b ib
decreasing_by exact tH a ia b ib h
theorem qU (ia ib:Bool):qm [] ia [] ib=[]:=by rw [qm];simp
theorem tJ (a:List Sp) (ia:Bool) (b:List Sp) (ib:Bool) (h:¬ (a=[]∧b=[])) :
    qm a ia b ib=⟨atL a ia b ib,(l6 a ia (atL a ia b ib)).2,(l6 b ib (atL a ia b ib)).2⟩ :: qm (l6 a ia (atL a ia b ib)).1 (l6 a ia (atL a ia b ib)).2 (l6 b ib (atL a ia b ib)).1 (l6 b ib (atL a ia b ib)).2:=by
  rw [qm,dif_neg h]
theorem aaR (n:Nat):∀ (a:List Sp) (ia:Bool) (b:List Sp) (ib:Bool),msr a ia+msr b ib≤n→(qm a ia b ib).length≤n:=by
  induction n with
  | zero =>
    intro a ia b ib h;by_cases e:a=[]∧b=[]
    · obtain ⟨rfl,rfl⟩:=e;rw [qU];simp
    · have:=tH a ia b ib e;omega
  | succ n ih =>
    intro a ia b ib h;by_cases e:a=[]∧b=[]
    · obtain ⟨rfl,rfl⟩:=e;rw [qU];simp
    · have:=tH a ia b ib e
      rw [tJ a ia b ib e];have:=ih _ (l6 a ia (atL a ia b ib)).2 _ (l6 b ib (atL a ia b ib)).2 (show msr (l6 a ia (atL a ia b ib)).1 (l6 a ia (atL a ia b ib)).2+msr (l6 b ib (atL a ia b ib)).1 (l6 b ib (atL a ia b ib)).2≤n by omega);simp only [List.length_cons];omega
structure Kst where
  inn:Bool
  from_:Int
  out:List Sp
def p8 (yes:Bool→Bool→Bool) (s:Kst) (x:Bd):Kst :=
  if yes x.a x.b && !s.inn then ⟨yes x.a x.b,x.at_,s.out⟩
  else if !(yes x.a x.b)&&s.inn then ⟨yes x.a x.b,s.from_,s.out++[⟨s.from_,wrap64 (x.at_ - 1)⟩]⟩
  else ⟨yes x.a x.b,s.from_,s.out⟩
def qM (yes:Bool→Bool→Bool) (xs:List Bd):Kst:=xs.foldl (p8 yes) ⟨false,0,[]⟩
theorem zV (yes:Bool→Bool→Bool) (xs:List Bd) (x:Bd):qM yes (xs++[x])=p8 yes (qM yes xs) x:=by simp [qM]
theorem aaS (yes:Bool→Bool→Bool) (s:Kst) (x:Bd):(p8 yes s x).out.length≤s.out.length+1:=by
  unfold p8;split <;> (try split) <;> simp
theorem aaT (yes:Bool→Bool→Bool) (xs:List Bd):(qM yes xs).out.length≤xs.length:=by
  have:∀ (ys:List Bd) (s:Kst),(ys.foldl (p8 yes) s).out.length≤s.out.length+ys.length:=by
    intro ys;induction ys with
    | nil=>intro s;simp
    | cons y ys ih=>intro s;have:=ih (p8 yes s y);have:=aaS yes s y;simp only [List.foldl_cons,List.length_cons];omega
  have:=this xs ⟨false,0,[]⟩;simpa [qM] using this
def rC (yes:Bool→Bool→Bool) (a b:List Sp):List Sp:=(qM yes (qm a false b false)).out
def many:Nat:=1000000000
end Go.Proofs.YtmbmalkpmanaaaaGreat.P
namespace Go.Proofs.YtmbmalkpmanaaaaGreat.P
set_option linter.unusedVariables false
set_option linter.unusedSimpArgs false
open Go.RowKit Go.Shelf Go.Proofs.YtmbmalkpmanaaaaGreatW.iD Go.Proofs.YtmbmalkpmanaaaaGreatW.jA Go.Proofs.YtmbmalkpmanaaaaGreatW.jw
theorem acJ {w:World} {A:Option Addr} {s:Sp} {l:List Sp} (h:Kd.C k38 w A (s :: l).length (s :: l)) :
    ∃ ad,A=some ad∧w.cell? ad=some (.int .i64 s.f0)∧w.cell? ⟨ad.block,ad.off+1,none⟩=some (.int .i64 s.f1):=by
  obtain ⟨ad,e,h0,h1⟩:=j5 h 0 (by omega) (by simp);rw [show (0:Int).toNat*2=0 from rfl,Addr.add_zero'] at h0 h1;exact ⟨ad,e,h0,h1⟩
theorem aen {w:World} {A:Option Addr} {c:Nat} {s:Sp} {l:List Sp} (h:Kd.C k38 w A (s :: l).length (s :: l)) (hc:(s :: l).length≤c) :
    Kd.C k38 w (if c=1 then A else A.map (·.add 2)) l.length l:=Kd.ad4 (m:=1) h (by simp) hc
def abZ (A0:Option Addr) (w:World) (l:List Sp) (i:Bool) (t:Int) (e:Ending) (w':World):Prop :=
  ∃ (A:Option Addr) (c:Nat),e=.returned (.tuple #[.slice A (l6 l i t).1.length c,.bool (l6 l i t).2])∧(∀ w2,Kd.C k38 w2 A0 l.length l→Kd.C k38 w2 A (l6 l i t).1.length (l6 l i t).1)∧(l6 l i t).1.length≤c∧w=w'
set_option maxHeartbeats 1000000 in
theorem zW (A0:Option Addr) (c0:Nat) (l:List Sp) (i:Bool) (t:Int) (w:World) (hr:Kd.C k38 w A0 l.length l) (hc:l.length≤c0) :
    Calls Tryz.prog 108 #[.slice A0 l.length c0,.bool i,.int .i64 t] w (abZ A0 w l i t):=by
  cases l with
  | nil =>
    have hp:l6 [] i t=([],i):=rfl;have HP:=Lib.hid hp;clear hp;go_enter Tryz.func108,Tryz.ntmps108;cases i;all_goals
      go_wp2
      go_ret2
      exact ⟨A0,c0,by rw [HP.out];rfl,by rw [HP.out];exact fun _ h=>h,by rw [HP.out];exact hc,rfl⟩
  | cons s r =>
    obtain ⟨ad,rfl,h0,h1⟩:=acJ hr;have hle:r.length+1≤c0:=by simpa using hc
    have hm:r.length+1≤9223372036854775807:=by simpa using hr.2.1
    have HT:=Lib.hid (fun (w2:World) (h2:Kd.C k38 w2 (some ad) (s :: r).length (s :: r))=>aen h2 hc);clear hr hc;have hz:decide (0<(s :: r).length)=true:=by simp
    have hz':decide (0<r.length+1)=true:=by simp
    cases i with
    | true =>
      by_cases he:wrap64 (s.f1+1)=t
      · have hp:l6 (s :: r) true t=(r,false):=by simp [l6,he]
        have HP:=Lib.hid hp;clear hp;have hb:(wrap64 (s.f1+1)==t)=true:=beq_iff_eq.2 he;clear he;by_cases h1c:c0=1
        · subst h1c
          go_enter Tryz.func108,Tryz.ntmps108
          go_wp2
          go_ret2
          have hr0:0=r.length:=by omega
          exact ⟨some ad,0,by rw [HP.out];simp;exact hr0,by rw [HP.out];exact HT.out,by rw [HP.out];exact Nat.le_of_eq hr0.symm,rfl⟩
        · have aa:1<c0:=by omega
          go_enter Tryz.func108,Tryz.ntmps108
          go_wp2
          go_ret2
          exact ⟨some (ad.add 2),c0 - 1,by rw [HP.out];simp [Addr.add],by rw [HP.out];intro w2 h2;have:=HT.out w2 h2;rwa [if_neg h1c] at this,by rw [HP.out];exact Nat.le_sub_of_add_le hle,rfl⟩
      · have hp:l6 (s :: r) true t=(s :: r,true):=by simp [l6,he]
        have HP:=Lib.hid hp;clear hp;have hb:(wrap64 (s.f1+1)==t)=false:=beq_eq_false_iff_ne.2 he;clear he;go_enter Tryz.func108,Tryz.ntmps108;go_wp2;go_ret2;exact ⟨some ad,c0,by rw [HP.out];simp,by rw [HP.out];exact fun _ h=>h,by rw [HP.out];simpa using hle,rfl⟩
    | false =>
      by_cases he:s.f0=t
      · have hp:l6 (s :: r) false t=(s :: r,true):=by simp [l6,he]
        have HP:=Lib.hid hp;clear hp;have hb:(s.f0==t)=true:=beq_iff_eq.2 he;clear he;go_enter Tryz.func108,Tryz.ntmps108;go_wp2;go_ret2;exact ⟨some ad,c0,by rw [HP.out];simp,by rw [HP.out];exact fun _ h=>h,by rw [HP.out];simpa using hle,rfl⟩
      · have hp:l6 (s :: r) false t=(s :: r,false):=by simp [l6,he]
        have HP:=Lib.hid hp;clear hp;have hb:(s.f0==t)=false:=beq_eq_false_iff_ne.2 he;clear he;go_enter Tryz.func108,Tryz.ntmps108;go_wp2;go_ret2;exact ⟨some ad,c0,by rw [HP.out];simp,by rw [HP.out];exact fun _ h=>h,by rw [HP.out];simpa using hle,rfl⟩
theorem tK (A0:Option Addr) (c0:Nat) (l:List Sp) (i:Bool) (t:Int) (l1:List Sp) (i1:Bool) (w w0:World) (hp:Hid (l6 l i t=(l1,i1))) (hr:Kd.C k38 w0 A0 l.length l) (hb:Below w0.heap.size w0 w) (hc:l.length≤c0) :
    Calls Tryz.prog 108 #[.slice A0 l.length c0,.bool i,.int .i64 t] w fun e w'=>∃ (A:Option Addr) (c:Nat),e=.returned (.tuple #[.slice A l1.length c,.bool i1])∧Kd.C k38 w0 A l1.length l1∧l1.length≤c∧w=w':=by
  refine (zW A0 c0 l i t w (Kd.iA hr hb) hc).mono ?_;rintro e w' ⟨A,c,rfl,h1,h2,rfl⟩;rw [hp.out] at h1 h2 ⊢;exact ⟨A,c,rfl,h1 w0 hr,h2,rfl⟩
theorem zX (A0:Option Addr) (c0:Nat) (s:Sp) (r:List Sp) (i:Bool) (w:World) (hr:Kd.C k38 w A0 (s :: r).length (s :: r)) (hc:(s :: r).length≤c0) :
    Calls Tryz.prog 106 #[.slice A0 (s :: r).length c0,.bool i] w fun e w'=>e=.returned (.int .i64 (sD (s :: r) i))∧w=w':=by
  obtain ⟨ad,rfl,h0,h1⟩:=acJ hr;have hm:r.length+1≤9223372036854775807:=by simpa using hr.2.1
  have hz:decide (0<r.length+1)=true:=by simp
  clear hr;cases i;all_goals
    go_enter Tryz.func106,Tryz.ntmps106
    go_wp2
    go_ret
    exact ⟨rfl,rfl⟩
theorem wz (A0:Option Addr) (c0:Nat) (s:Sp) (r:List Sp) (i:Bool) (t:Int) (w w0:World) (hp:Hid (sD (s :: r) i=t)) (hr:Kd.C k38 w0 A0 (s :: r).length (s :: r)) (hb:Below w0.heap.size w0 w) (hc:(s :: r).length≤c0) :
    Calls Tryz.prog 106 #[.slice A0 (s :: r).length c0,.bool i] w fun e w'=>e=.returned (.int .i64 t)∧w=w':=by
  have h:=zX A0 c0 s r i w (Kd.iA hr hb) hc;rw [hp.out] at h;exact h
end Go.Proofs.YtmbmalkpmanaaaaGreat.P
namespace Go.Proofs.YtmbmalkpmanaaaaGreat.P
set_option linter.unusedVariables false
set_option linter.unusedSimpArgs false
open Go.RowKit Go.Shelf Go.Proofs.YtmbmalkpmanaaaaGreatW.iD Go.Proofs.YtmbmalkpmanaaaaGreatW.jA Go.Proofs.YtmbmalkpmanaaaaGreatW.jw Go.Proofs.YtmbmalkpmanaaaaGreat.zo
attribute [local go_sem] Oper.semAt_some
def adT (x:Bd):Array Value:=#[.agg #[.int .i64 x.at_,.bool x.a,.bool x.b]]
def KpB (n₀ Ba Bb Bn:Nat) (W W':World):Prop:=Below n₀ W W'∧(∀ k,k=Ba∨k=Bb∨k=Bn→W'.heap[k]? = W.heap[k]?)
def PvB (Ba Bb:Nat) (r:Nat):Prop:=r=Ba∨r=Bb
def BSt (w0:World) (Ba Bb Bn:Nat) (all:List Bd) (J:List Bd→World→Prop) (k:Nat) (ia ib:Bool) (W:World) (pre:List Bd) (a b:List Sp) (A B:Option Addr) (ca cb:Nat):Prop :=
  Boxed W Ba 27 (.slice A a.length ca)∧Boxed W Bb 27 (.slice B b.length cb)∧Boxed W Bn 132 (.func (.func 106) #[] #[]) ∧
  Kd.C k38 w0 A a.length a∧a.length≤ca∧Kd.C k38 w0 B b.length b∧b.length≤cb∧Below w0.heap.size w0 W∧J pre W∧all=pre++qm a ia b ib∧msr a ia+msr b ib≤k
theorem below_drewN {B:Nat} {a w:World} (h:Below B a w) (n:Nat):Below B a (w.drewN n):=⟨h.os,h.tape,h.output,h.size,h.block⟩
theorem wB {w0 wr:World} {Ba Bb Bn:Nat} (hab:Ba≠Bb) (han:Ba≠Bn) (hbn:Bb≠Bn) (hBa:w0.heap.size≤Ba) (hBb:w0.heap.size≤Bb) {J:List Bd→World→Prop} (hJ:Still (PvB Ba Bb) J) {pre:List Bd} {T Tn:TypeId} {u1 u2 u3:Value}
    (bA:Boxed wr Ba T u1) (bB:Boxed wr Bb T u2) (bN:Boxed wr Bn Tn u3) (hbel:Below w0.heap.size w0 wr) (aa:J pre wr) (v1 v2:Value) :
    J pre ((wr.setCell ⟨Ba,0,none⟩ v1).setCell ⟨Bb,0,none⟩ v2)∧Boxed ((wr.setCell ⟨Ba,0,none⟩ v1).setCell ⟨Bb,0,none⟩ v2) Ba T v1∧Boxed ((wr.setCell ⟨Ba,0,none⟩ v1).setCell ⟨Bb,0,none⟩ v2) Bb T v2 ∧
      Boxed ((wr.setCell ⟨Ba,0,none⟩ v1).setCell ⟨Bb,0,none⟩ v2) Bn Tn u3∧Below w0.heap.size w0 ((wr.setCell ⟨Ba,0,none⟩ v1).setCell ⟨Bb,0,none⟩ v2):=by
  have b1:Boxed (wr.setCell ⟨Ba,0,none⟩ v1) Bb T u2:=bB.kept (grownBy_setCell' wr Ba v1) (by simpa using fun e=>hab e.symm);have n1:Boxed (wr.setCell ⟨Ba,0,none⟩ v1) Bn Tn u3:=bN.kept (grownBy_setCell' wr Ba v1) (by simpa using fun e=>han e.symm);refine ⟨hJ _ _ _ _ (hJ _ _ _ _ aa (grownBy_setCell' wr Ba v1) (fun r e=>by cases e;exact ⟨.inl rfl,_,bA,rfl⟩)) (grownBy_setCell' _ Bb v2) (fun r e=>by cases e;exact ⟨.inr rfl,_,b1,rfl⟩),?_,b1.set v2,?_,?_⟩
  · exact (bA.set v1).kept (grownBy_setCell' _ Bb v2) (by simpa using hab)
  · exact n1.kept (grownBy_setCell' _ Bb v2) (by simpa using fun e=>hbn e.symm)
  · exact (hbel.setCell (p:=⟨Ba,0,none⟩) hBa _).setCell (p:=⟨Bb,0,none⟩) hBb _
theorem rJ {w0 W1 W3:World} {Ba Bb Bn:Nat} {T Tn:TypeId} {u1 u2 u3:Value} (bA:Boxed W1 Ba T u1) (bB:Boxed W1 Bb T u2) (bN:Boxed W1 Bn Tn u3) (hbel:Below w0.heap.size w0 W1) (h:KpB w0.heap.size Ba Bb Bn W1 W3) :
    Boxed W3 Ba T u1∧Boxed W3 Bb T u2∧Boxed W3 Bn Tn u3∧Below w0.heap.size w0 W3 :=
  ⟨(h.2 _ (.inl rfl)).trans bA,(h.2 _ (.inr (.inl rfl))).trans bB,(h.2 _ (.inr (.inr rfl))).trans bN,hbel.trans h.1⟩
set_option maxHeartbeats 2000000 in
theorem yC (n:Nat) (hn:1≤n) (w0:World) (Ba Bb Bn l:Nat) (hab:Ba≠Bb) (han:Ba≠Bn) (hbn:Bb≠Bn) (hBa:w0.heap.size≤Ba) (hBb:w0.heap.size≤Bb)
    (A B:Option Addr) (ca cb:Nat) (a b:List Sp) (aC:a.length+b.length≤many) (J:List Bd→World→Prop) (hJ:Still (PvB Ba Bb) J)
    (hY:∀ pre x W1,J pre W1→pre.length<(qm a false b false).length→YieldAt Fence.wide (n - 1) Tryz.prog l (adT x) W1 fun e W'=>e=.returned (.bool true)∧J (pre++[x]) W'∧KpB w0.heap.size Ba Bb Bn W1 W')
    (W:World) (h0:BSt w0 Ba Bb Bn (qm a false b false) J (msr a false+msr b false) false false W [] a b A B ca cb) :
    CallsIn Fence.wide n Tryz.prog 107 #[.func (.yield l) #[] #[],.pointer (some ⟨Ba,0,none⟩),.pointer (some ⟨Bb,0,none⟩),.pointer (some ⟨Bn,0,none⟩)] W fun e W'=>(∃ v,e=.returned v)∧∃ xs,xs=qm a false b false∧J xs W':=by
  obtain ⟨all,hall⟩:∃ all,qm a false b false=all:=⟨_,rfl⟩;rw [hall] at h0 hY ⊢;obtain ⟨m0,hm0⟩:∃ m0,msr a false+msr b false=m0:=⟨_,rfl⟩;have hm1:m0≤2*many:=by rw [← hm0];unfold msr;simp;omega
  rw [hm0] at h0;clear hall hm0;refine callsIn_of_wp Tryz.func107 rfl trivial ?_ rfl;simp only [Tryz.ntmps107,List.size_toArray,List.length_cons,List.length_nil,Nat.reduceAdd,Nat.reduceSub,Array.replicate_succ,Array.replicate_zero,List.push_toArray,List.append_toArray,List.nil_append,List.cons_append];gi_wp2;gi_loopg [5,6] m0 (fun k v5 v6 wr=>∃ (ia ib:Bool) (pre:List Bd) (a b:List Sp) (A B:Option Addr) (ca cb:Nat),v5=.bool ia∧v6=.bool ib∧k≤2*many∧BSt w0 Ba Bb Bn all J k ia ib wr pre a b A B ca cb)
  case atStart=>exact ⟨false,false,[],a,b,A,B,ca,cb,rfl,rfl,hm1,h0⟩
  case round =>
    clear h0 hm1 m0 aC;clear A B ca cb a b;obtain ⟨ia,ib,pre,a,b,A,B,ca,cb,rfl,rfl,hk,bA,bB,bN,hA,hca,hB,hcb,hbel,ak,hall,hms⟩:=hrel;have cA:=bA.cell;have cB:=bB.cell;have cN:=bN.cell;have fA:=bA.frozen;have fB:=bB.frozen;have lA:a.length≤4611686018427387903:=by unfold msr many at *;split at hms <;> split at hms <;> omega
    have lB:b.length≤4611686018427387903:=by unfold msr many at *;split at hms <;> split at hms <;> omega
    by_cases ae:a=[]∧b=[]
    · obtain ⟨rfl,rfl⟩:=ae
      have al:=Lib.hid hall;clear hall hms hk hA hB;gi_wp2;go_end0;exact ⟨⟨_,rfl⟩,all,rfl,by have:=al.out;rw [qU,List.append_nil] at this;rw [this];exact ak⟩
    · obtain ⟨t,ht⟩:∃ t,atL a ia b ib=t:=⟨_,rfl⟩
      obtain ⟨a1,aa,hp⟩:∃ a1 aa,l6 a ia t=(a1,aa):=⟨_,_,rfl⟩;obtain ⟨b1,ab,hq⟩:∃ b1 ab,l6 b ib t=(b1,ab):=⟨_,_,rfl⟩;have ay:msr a1 aa+msr b1 ab<gk:=by
        have:=tH a ia b ib ae;rw [ht,hp,hq] at this;exact Nat.lt_of_lt_of_le this hms
      have ap:all=(pre++[⟨t,aa,ab⟩])++qm a1 aa b1 ab:=by
        rw [hall,tJ a ia b ib ae,ht,hp,hq];simp
      have hlen:pre.length<all.length:=by rw [ap];simp
      have al:=Lib.hid ap;have ao:=Lib.hid ay;have HP:=Lib.hid hp;have HQ:=Lib.hid hq;have HA:=Lib.hid hA;have HB:=Lib.hid hB;have HK:=Lib.hid hk;clear hall ap hms ay hp hq hA hB hk;have lA':=lA;have lB':=lB;by_cases ha:a=[]
      · subst ha
        obtain ⟨s,r,rfl⟩:∃ s r,b=s :: r:=by cases b with | nil=>exact absurd ⟨rfl,rfl⟩ ae | cons s r=>exact ⟨s,r,rfl⟩
        have hn:sD (s :: r) ib=t:=by rw [← ht];simp [atL]
        have HN:=Lib.hid hn;clear hn ht ae;have lB2:r.length+1≤4611686018427387903:=lB';have aF:r.length+1≤cb:=hcb;gi_wp2_with fail;refine ⟨trivial,?_⟩;gi_at_call 106;refine (callsIn_wide.2 (wz B cb s r ib t _ w0 HN HB.out (by assumption) hcb)).mono ?_;rintro e w' ⟨rfl,rfl⟩;gi_wp2_with fail;refine ⟨trivial,?_⟩;gi_at_call 108;refine (callsIn_wide.2 (tK A ca _ ia t a1 aa _ w0 HP HA.out (by assumption) hca)).mono ?_;rintro e w' ⟨A1,c1,rfl,hA1,hc1,rfl⟩;have HA1:=Lib.hid hA1;clear hA1;gi_wp2_with fail;refine ⟨trivial,?_⟩;gi_at_call 108;refine (callsIn_wide.2 (tK B cb _ ib t b1 ab _ w0 HQ HB.out ?_ hcb)).mono ?_
        · exact hbel.setCell (p:=⟨Ba,0,none⟩) hBa _
        rintro e w' ⟨B1,d1,rfl,hB1,hd1,rfl⟩;have HB1:=Lib.hid hB1;clear hB1;obtain ⟨ag,ah,ai,aj,ac⟩:=wB hab han hbn hBa hBb hJ bA bB bN hbel ak (.slice A1 a1.length c1) (.slice B1 b1.length d1);obtain ⟨fn,tmps,assign,body,hy,hR⟩:=hY pre ⟨t,aa,ab⟩ _ ag hlen;dsimp only [adT] at hy;gi_wp2;refine hR.mono ?_;rintro e W3 ⟨rfl,hJ3,hK3⟩;obtain ⟨au,av,aw,af⟩:=rJ ah ai aj ac hK3;clear ah ai aj ac ag hy hR hK3;gi_wp2;gi_roundg (msr a1 aa+msr b1 ab)
        case measure=>exact ao.out
        case rel=>exact ⟨aa,ab,pre++[⟨t,aa,ab⟩],a1,b1,A1,B1,c1,d1,rfl,rfl,Nat.le_trans (Nat.le_of_lt ao.out) HK.out,au,av,aw,HA1.out,hc1,HB1.out,hd1,af,hJ3,al.out,Nat.le_refl _⟩
      · obtain ⟨s,r,rfl⟩:∃ s r,a=s :: r:=by cases a with | nil=>exact absurd rfl ha | cons s r=>exact ⟨s,r,rfl⟩
        clear ha;have lA2:r.length+1≤4611686018427387903:=lA';have aG:r.length+1≤ca:=hca;by_cases hb:b=[]
        · subst hb
          have hn:sD (s :: r) ia=t:=by rw [← ht];simp [atL]
          have HN:=Lib.hid hn;clear hn ht ae;gi_wp2_with fail;refine ⟨trivial,?_⟩;gi_at_call 106;refine (callsIn_wide.2 (wz A ca s r ia t _ w0 HN HA.out (by assumption) hca)).mono ?_;rintro e w' ⟨rfl,rfl⟩;gi_wp2_with fail;refine ⟨trivial,?_⟩;gi_at_call 108;refine (callsIn_wide.2 (tK A ca _ ia t a1 aa _ w0 HP HA.out (by assumption) hca)).mono ?_;rintro e w' ⟨A1,c1,rfl,hA1,hc1,rfl⟩;have HA1:=Lib.hid hA1;clear hA1;gi_wp2_with fail;refine ⟨trivial,?_⟩;gi_at_call 108;refine (callsIn_wide.2 (tK B cb _ ib t b1 ab _ w0 HQ HB.out ?_ hcb)).mono ?_
          · exact hbel.setCell (p:=⟨Ba,0,none⟩) hBa _
          rintro e w' ⟨B1,d1,rfl,hB1,hd1,rfl⟩;have HB1:=Lib.hid hB1;clear hB1;obtain ⟨ag,ah,ai,aj,ac⟩:=wB hab han hbn hBa hBb hJ bA bB bN hbel ak (.slice A1 a1.length c1) (.slice B1 b1.length d1);obtain ⟨fn,tmps,assign,body,hy,hR⟩:=hY pre ⟨t,aa,ab⟩ _ ag hlen;dsimp only [adT] at hy;gi_wp2;refine hR.mono ?_;rintro e W3 ⟨rfl,hJ3,hK3⟩;obtain ⟨au,av,aw,af⟩:=rJ ah ai aj ac hK3;clear ah ai aj ac ag hy hR hK3;gi_wp2;gi_roundg (msr a1 aa+msr b1 ab)
          case measure=>exact ao.out
          case rel=>exact ⟨aa,ab,pre++[⟨t,aa,ab⟩],a1,b1,A1,B1,c1,d1,rfl,rfl,Nat.le_trans (Nat.le_of_lt ao.out) HK.out,au,av,aw,HA1.out,hc1,HB1.out,hd1,af,hJ3,al.out,Nat.le_refl _⟩
        · obtain ⟨s2,r2,rfl⟩:∃ s r,b=s :: r:=by cases b with | nil=>exact absurd rfl hb | cons s r=>exact ⟨s,r,rfl⟩
          clear hb;have lB2:r2.length+1≤4611686018427387903:=lB';have aF:r2.length+1≤cb:=hcb;have hn:min (sD (s :: r) ia) (sD (s2 :: r2) ib)=t:=by rw [← ht];simp [atL]
          obtain ⟨p1,hp1⟩:∃ p,sD (s :: r) ia=p:=⟨_,rfl⟩;obtain ⟨p2,hp2⟩:∃ p,sD (s2 :: r2) ib=p:=⟨_,rfl⟩;rw [hp1,hp2] at hn;replace hn:(if p2<p1 then p2 else p1)=t:=by rw [← hn];split <;> omega
          have HN:=Lib.hid hn;have aD:=Lib.hid hp1;have aE:=Lib.hid hp2;clear hn ht ae hp1 hp2;gi_wp2_with fail;refine wpIn_region_quiet_lit rfl (by kernel_rfl) (by kernel_rfl) ?_;repeat (gi_big_quiet_step (fail))
          refine wpQuietIn_step (fun _ _ _ _=>trivial) (fun K hK => ?_);go_simp;refine ⟨.int .i64 p1,fun q=>CallsIn.quiet_of_same ((callsIn_wide.2 (wz A ca s r ia p1 _ w0 aD HA.out (below_drewN hbel _) hca)).mono fun _ _ h=>⟨h.1,h.2.symm⟩),hK _ ?_⟩;clear hK K;repeat (gi_big_quiet_step (fail))
          refine wpQuietIn_step (fun _ _ _ _=>trivial) (fun K hK => ?_);go_simp;refine ⟨.int .i64 p2,fun q=>CallsIn.quiet_of_same ((callsIn_wide.2 (wz B cb s2 r2 ib p2 _ w0 aE HB.out (below_drewN hbel _) hcb)).mono fun _ _ h=>⟨h.1,h.2.symm⟩),hK _ ?_⟩;clear hK K;repeat (gi_big_quiet_step (fail))
          refine wpQuietIn_nil ?_;rintro w' ⟨nq,rfl⟩;rw [HN.out];have az:Boxed (wr.drewN nq) Ba 27 (.slice A (s :: r).length ca):=bA;have aA:Boxed (wr.drewN nq) Bb 27 (.slice B (s2 :: r2).length cb):=bB;have aB:Boxed (wr.drewN nq) Bn 132 (.func (.func 106) #[] #[]):=bN;have aq:=below_drewN hbel nq;have ax:J pre (wr.drewN nq):=hJ _ _ _ none ak ⟨rfl,rfl,rfl,Nat.le_refl _,fun _ _ _=>rfl⟩ (fun r e=>by cases e);obtain ⟨wq,hwq⟩:∃ wq,wr.drewN nq=wq:=⟨_,rfl⟩;rw [hwq] at az aA aB aq ax ⊢;clear hwq bA bB bN hbel ak cA cB cN fA fB HN aD aE;have bA:=az;have bB:=aA;have bN:=aB;have hbel:=aq;have ak:=ax;clear az aA aB aq ax;have cA:=bA.cell;have cB:=bB.cell;have fA:=bA.frozen;have fB:=bB.frozen;gi_wp2_with fail;refine ⟨trivial,?_⟩;gi_at_call 108;refine (callsIn_wide.2 (tK A ca _ ia t a1 aa _ w0 HP HA.out (by assumption) hca)).mono ?_;rintro e w' ⟨A1,c1,rfl,hA1,hc1,rfl⟩;have HA1:=Lib.hid hA1;clear hA1;gi_wp2_with fail;refine ⟨trivial,?_⟩;gi_at_call 108;refine (callsIn_wide.2 (tK B cb _ ib t b1 ab _ w0 HQ HB.out ?_ hcb)).mono ?_
          · exact hbel.setCell (p:=⟨Ba,0,none⟩) hBa _
          rintro e w' ⟨B1,d1,rfl,hB1,hd1,rfl⟩;have HB1:=Lib.hid hB1;clear hB1;obtain ⟨ag,ah,ai,aj,ac⟩:=wB hab han hbn hBa hBb hJ bA bB bN hbel ak (.slice A1 a1.length c1) (.slice B1 b1.length d1);obtain ⟨fn,tmps,assign,body,hy,hR⟩:=hY pre ⟨t,aa,ab⟩ _ ag hlen;dsimp only [adT] at hy;gi_wp2;refine hR.mono ?_;rintro e W3 ⟨rfl,hJ3,hK3⟩;obtain ⟨au,av,aw,af⟩:=rJ ah ai aj ac hK3;clear ah ai aj ac ag hy hR hK3;gi_wp2;gi_roundg (msr a1 aa+msr b1 ab)
          case measure=>exact ao.out
          case rel=>exact ⟨aa,ab,pre++[⟨t,aa,ab⟩],a1,b1,A1,B1,c1,d1,rfl,rfl,Nat.le_trans (Nat.le_of_lt ao.out) HK.out,au,av,aw,HA1.out,hc1,HB1.out,hd1,af,hJ3,al.out,Nat.le_refl _⟩
end Go.Proofs.YtmbmalkpmanaaaaGreat.P
namespace Go.Proofs.YtmbmalkpmanaaaaGreat.P
set_option linter.unusedVariables false
set_option linter.unusedSimpArgs false
open Go.RowKit Go.Proofs.YtmbmalkpmanaaaaGreatW.iD Go.Proofs.YtmbmalkpmanaaaaGreatW.jA Go.Proofs.YtmbmalkpmanaaaaGreatW.jw
theorem aaU {w:World} {p:Addr} {v:Value} (o:Obj) (h:w.cell? p=some v):(w.alloc o).cell? p=some v:=by
  obtain ⟨o',ho,_⟩:=cells_of_cell h;exact (((Below.refl w.heap.size w).alloc (Nat.le_refl _) o).cell (p:=p) (Array.getElem?_eq_some_iff.1 ho).1).trans h
def lK (l:List Sp):List Value:=l.flatMap fun s=>[.int .i64 s.f0,.int .i64 s.f1]
theorem qG (l:List Sp):(lK l).length=l.length*2:=by
  induction l with
  | nil=>rfl
  | cons s l ih=>simp [lK] at ih ⊢;omega
theorem uP (l:List Sp):∀ u∈lK l,u.oneCell'=true:=by
  intro u hu;simp only [lK,List.mem_flatMap] at hu;obtain ⟨s,_,hu⟩:=hu;simp at hu;rcases hu with rfl | rfl <;> rfl
theorem aaV (w:World) (base:Nat) (ok:Nat→Prop) (l:List Sp):mI (k38.M w base ok) 2 l (lK l):=by
  suffices h:∀ r:List Sp,mI (k38.M w base ok) 2 r.reverse (lK r.reverse) by simpa using h l.reverse
  intro r;induction r with
  | nil=>exact mI.none _ _
  | cons s r ih =>
    rw [List.reverse_cons];have:lK (r.reverse++[s])=lK r.reverse++[.int .i64 s.f0,.int .i64 s.f1]:=by simp [lK]
    rw [this];exact ih.snoc (oV _ _ _ _) rfl
theorem ab0 {w:World} {base nb:Nat} {v:Value} {l:List Sp} (h:w.ownsRow nb 38 2 v l.length (lK l)) (hb:base≤nb):Kd.R k38 38 w base (fun _=>True) v l :=
  ⟨fun _ _=>trivial,_,vH h hb,aaV w base _ l⟩
theorem zx {w:World} {ad:Addr} {l:List Sp} (h:Kd.C k38 w (some ad) l.length l):∀ j u,(lK l)[j]? = some u→w.cell? (ad.add j)=some u:=by
  have key:∀ (p:List Sp) (a:Nat),(∀ j s,p[j]? = some s→w.cell? (ad.add ((a+j)*2))=some (.int .i64 s.f0)∧w.cell? (ad.add ((a+j)*2+1))=some (.int .i64 s.f1))→∀ j u,(lK p)[j]? = some u→w.cell? (ad.add (a*2+j))=some u:=by
    intro p;induction p with
    | nil=>intro a _ j u hu;simp [lK] at hu
    | cons s p ih =>
      intro a hp j u hu
      match j with
      | 0=>simp [lK] at hu;subst hu;simpa using (hp 0 s rfl).1
      | 1=>simp [lK] at hu;subst hu;simpa using (hp 0 s rfl).2
      | j+2 =>
        have:=ih (a+1) (fun i t hi=>by have:=hp (i+1) t (by simpa using hi);rwa [show a+(i+1)=a+1+i by omega] at this) j u (by simpa [lK] using hu);rwa [show (a+1)*2+j=a*2+(j+2) by omega] at this
  intro j u hu;have:=key l 0 (fun i s hi => ?_) j u hu
  · simpa using this
  · have hlt:i<l.length:=(List.getElem?_eq_some_iff.1 hi).1
    obtain ⟨aa,e,h0,h1⟩:=j5 h (i:Int) (by omega) (by omega);cases e;have hr:gN l i=s:=by simp [gN,hi]
    rw [hr] at h0 h1;simp only [Int.toNat_natCast] at h0 h1;refine ⟨by simpa using h0,?_⟩;have:(⟨(ad.add (i*2)).block,(ad.add (i*2)).off+1,none⟩:Addr)=ad.add (i*2+1):=(pQ ad (i*2) 1 (by omega)).symm;rw [this] at h1;simpa using h1
theorem acK {w:World} {l:List Sp} (h:Kd.C k38 w none l.length l):l=[]:=by
  cases l with
  | nil=>rfl
  | cons s l=>obtain ⟨ad,e,_⟩:=h.2.2 (by simp);cases e
theorem aaW:(Tryz.prog.info? 38).map (fun i=>(i.zero,i.size,i.bytes))=some (some (.agg #[(.int .i64 0),(.int .i64 0)]),2,16):=by kernel_rfl
def ru.f (l0:List Sp):Option (List Sp):=if l0.length≤many then some l0 else none
def lM.f (l0:List Sp):Option (List Sp):=if l0.length≤many then some l0 else none
set_option maxRecDepth 100000 in
set_option maxHeartbeats 1000000 in
theorem ru.calls (A0:Option Addr) (c0:Nat) (l0:List Sp) (r:List Sp) (w:World) (hr0:Kd.C k38 w A0 l0.length l0) (hc0:l0.length≤c0) (h:ru.f l0=some r) :
    Calls Tryz.prog 33 #[.slice A0 l0.length c0] w fun e w'=>∃ v0_:Value,e=.returned (v0_)∧Kd.R k38 38 w' w.heap.size (fun _=>True) v0_ r∧Below w.heap.size w w':=by
  unfold ru.f at h;by_cases hm:l0.length≤many
  · rw [if_pos hm] at h
    cases h
    obtain ⟨i0,hi,hz0,hz1,hz2⟩:=info_parts aaW;cases A0 with
    | none =>
      obtain rfl:=acK hr0;have he:=Go.run_eql_slice_nil (P:=Tryz.prog) w 27 38 none 0 c0 Tryz.underlying27;go_enter Tryz.func33,Tryz.ntmps33;go_wp2;go_ret;exact ⟨_,rfl,ab0 (World.ownsRow_nil _ _ _ _) (Nat.le_refl _),Below.refl _ _⟩
    | some ad =>
      have hs:=zx hr0;have hl:=qG l0;have h1:=uP l0;have hR:=fun (base:Nat) (v:Value) (w':World) (h:w'.ownsRow base 38 2 v l0.length (lK l0))=>ab0 h (Nat.le_refl _);obtain ⟨cs,hcs⟩:∃ cs,lK l0=cs:=⟨_,rfl⟩;rw [hcs] at hs hl h1 hR;clear hcs;obtain ⟨m,hmm⟩:∃ m,l0.length=m:=⟨_,rfl⟩;have hR':=Lib.hid hR;rw [hmm] at hl hm hR' hc0 ⊢;clear hr0 hR hmm;have he:=Go.run_eql_slice_nil (P:=Tryz.prog) w 27 38 (some ad) m c0 Tryz.underlying27;have hl2:=Lib.hid hl;clear hl;have hown0:(w.alloc (.cells #[] 38)).ownsRow w.heap.size 38 2 (.slice (some ⟨w.heap.size,0,none⟩) 0 0) 0 []:=World.ownsRow_made w #[] 0 (Nat.le_refl _) (by decide) rfl;have hown:=Lib.hid hown0;clear hown0;go_enter Tryz.func33,Tryz.ntmps33;have hs2:∀ (j:Nat) (u:Value),cs[j]? = some u→(w.alloc (.cells #[] 38)).cell? (ad.add j)=some u:=fun j u hj=>aaU _ (hs j u hj);have hm2:m≤1000000000:=hm;clear hs;go_wp2_with (at_builtin;refine wpList_append_own _ rfl _ _ 27 rfl w.heap.size 38 i0 (.agg #[(.int .i64 0),(.int .i64 0)]) 2 16 Tryz.underlying27 hi hz0 hz1 hz2 rfl (by decide) _ _ _ rfl hown.out ad m c0 cs rfl hl2.out hs2 h1 (by unfold maxLen;omega) (by omega) (by simp) ?_;intro v' w1 hown' hgrow _);go_ret;refine ⟨v',rfl,hR'.out _ _ _ (by simpa using hown'),?_⟩;exact ((Below.refl _ w).alloc (Nat.le_refl _) _).grown hgrow (by simp) (fun j e=>by have e':w.heap.size=j:=Option.some.inj e;omega)
  · rw [if_neg hm] at h;cases h
theorem zY {P:Program} (w:World) (dT sT ty elem:TypeId) (g dLen dCap:Nat) (a:Addr) (sLen sCap:Nat) (cur:Array Value) (t:TypeId) (cs:List Value) (n k:Nat)
    (hu:P.underlying dT=some (.slice elem)) (hs:(P.info? elem).map (·.size)=some k)
    (hg:w.heap[g]? = some (.cells cur t (0,0))) (hn:n=Nat.min sLen dLen) (hl:cs.length=n*k)
    (hsrc:∀ j v,cs[j]? = some v→w.cell? (a.add j)=some v) (hfit:cs.length≤cur.size) (h1:∀ v∈cs,v.oneCell'=true) :
    (Builtin.copy_ #[dT,sT] ty #[.slice (some ⟨g,0,none⟩) dLen dCap,.slice (some a) sLen sCap]).run P w =
      .ok (goInt n) (w.setRow g (cs++cur.toList.drop cs.length).toArray):=by
  have hld:=run_loadCells_list (P:=P) w a cs hsrc;have hst:=run_storeCells_at P g 0 t cs 0 cur w hg (by simpa using hfit) h1;cases hq:P.info? elem with
  | none=>simp [hq] at hs
  | some i =>
    have hi:i.size=k:=by simpa [hq] using hs
    rw [hl] at hld;simp [Builtin.copy_,run_underlying hu,Builtin.lenOf,Builtin.firstCells,sizeOf,typeInfo,hq,hi,← hn,hld,hst]
theorem wC {P:Program} (w:World) (dT sT ty elem:TypeId) (g dCap:Nat) (a:Option Addr) (sCap k:Nat) (hu:P.underlying dT=some (.slice elem)) (hs:(P.info? elem).map (·.size)=some k) :
    (Builtin.copy_ #[dT,sT] ty #[.slice (some ⟨g,0,none⟩) 0 dCap,.slice a 0 sCap]).run P w=.ok (goInt 0) w:=by
  cases hq:P.info? elem with
  | none=>simp [hq] at hs
  | some i =>
    cases a <;> simp [Builtin.copy_,run_underlying hu,Builtin.lenOf,Builtin.firstCells,sizeOf,typeInfo,hq,loadCells,loadCellsFrom,storeCells]
set_option maxRecDepth 100000 in
set_option maxHeartbeats 1000000 in
theorem lM.calls (A0:Option Addr) (c0:Nat) (l0:List Sp) (r:List Sp) (w:World) (hr0:Kd.C k38 w A0 l0.length l0) (hc0:l0.length≤c0) (h:lM.f l0=some r) :
    Calls Tryz.prog 24 #[.slice A0 l0.length c0] w fun e w'=>∃ v0_:Value,e=.returned (v0_)∧Kd.R k38 38 w' w.heap.size (fun _=>True) v0_ r∧Below w.heap.size w w':=by
  unfold lM.f at h;by_cases hm:l0.length≤many
  · rw [if_pos hm] at h
    cases h
    obtain ⟨i0,hi,hz0,hz1,hz2⟩:=info_parts aaW;have hs:(Tryz.prog.info? 38).map (·.size)=some 2:=by rw [hi];simp [hz1]
    have hm2:l0.length≤1000000000:=hm;have hmk:=fun W=>run_make (P:=Tryz.prog) W 27 38 i0 _ Tryz.underlying27 hi hz0 .i64 .i64 l0.length l0.length (by omega) (Int.le_refl _) (by rw [hz2];omega) (by omega);simp only [hz1,Int.toNat_natCast] at hmk;have hgo:∃ w',(Builtin.copy_ #[27,27] 3 #[.slice (some ⟨w.heap.size,0,none⟩) l0.length l0.length,.slice A0 l0.length c0]).run Tryz.prog (w.alloc (.cells (madeCells (Value.cells (.agg #[.int .i64 0,.int .i64 0])) (l0.length*2)) 38))=.ok (goInt l0.length) w' ∧
        w'.ownsRow w.heap.size 38 2 (.slice (some ⟨w.heap.size,0,none⟩) l0.length l0.length) l0.length (lK l0)∧Below w.heap.size w w':=by
      have hnew:=World.alloc_heap_new w (.cells (madeCells (Value.cells (.agg #[.int .i64 0,.int .i64 0])) (l0.length*2)) 38);have hbel:=(Below.refl w.heap.size w).alloc (Nat.le_refl _) (.cells (madeCells (Value.cells (.agg #[.int .i64 0,.int .i64 0])) (l0.length*2)) 38);have hsz:=size_madeCells (Value.cells (.agg #[.int .i64 0,.int .i64 0])) (l0.length*2);have hon:∀ {p v},w.cell? p=some v→(w.alloc (.cells (madeCells (Value.cells (.agg #[.int .i64 0,.int .i64 0])) (l0.length*2)) 38)).cell? p=some v:=fun h=>aaU _ h;generalize madeCells (Value.cells (.agg #[.int .i64 0,.int .i64 0])) (l0.length*2)=cur at *;generalize hW:w.alloc (.cells cur 38)=W at *;have hl:=qG l0;cases A0 with
      | none =>
        obtain rfl:=acK hr0;exact ⟨W,wC W _ _ _ _ _ _ _ _ 2 Tryz.underlying27 hs,⟨by simp [lK],.inr ⟨w.heap.size,0,cur,rfl,Nat.le_refl _,hnew,Nat.le_refl _,by decide,by simpa using hsz,by simp [lK]⟩⟩,hbel⟩
      | some ad =>
        refine ⟨_,zY W _ _ _ _ w.heap.size l0.length l0.length ad l0.length c0 cur _ (lK l0) l0.length 2 Tryz.underlying27 hs hnew (by simp) hl (fun j v hj=>hon (zx hr0 j v hj)) (by omega) (uP l0),?_,?_⟩
        · refine ⟨hl,.inr ⟨w.heap.size,l0.length,_,rfl,Nat.le_refl _,setRow_heap W _ _ _ _ _ hnew,Nat.le_refl _,by unfold maxLen;omega,?_,?_⟩⟩
          · simp;omega
          · simp [← hl]
        · exact below_setRow hbel (Nat.le_refl _) _
    obtain ⟨w1,hcp,how,hb⟩:=hgo;have HR:=Lib.hid (ab0 how (Nat.le_refl _));clear hr0 how hs hz1 hz2 hz0 hi hm;have hmk':=hmk w;clear hmk;generalize madeCells (Value.cells (.agg #[.int .i64 0,.int .i64 0])) (l0.length*2)=cur at *;go_enter Tryz.func24,Tryz.ntmps24;go_wp2;go_ret;exact ⟨_,rfl,HR.out,hb⟩
  · rw [if_neg hm] at h;cases h
end Go.Proofs.YtmbmalkpmanaaaaGreat.P
namespace Go.Proofs.YtmbmalkpmanaaaaGreat.P
set_option linter.unusedVariables false
set_option linter.unusedSimpArgs false
open Go.RowKit Go.Shelf Go.Proofs.YtmbmalkpmanaaaaGreatW.iD Go.Proofs.YtmbmalkpmanaaaaGreatW.jA Go.Proofs.YtmbmalkpmanaaaaGreatW.jw Go.Proofs.YtmbmalkpmanaaaaGreat.zo
attribute [local go_sem] Oper.semAt_some
def lZ (w:World) (u v:Value):World :=
  ((w.alloc (.cells #[u] 27)).alloc (.cells #[v] 27)).alloc (.cells #[.func (.func 106) #[] #[]] 132)
theorem wD (A B:Option Addr) (n m ca cb:Nat) (w:World) :
    Calls Tryz.prog 102 #[.slice A n ca,.slice B m cb] w fun e w' =>
      e=.returned (.func (.func 107) #[] #[.pointer (some ⟨w.heap.size,0,none⟩),.pointer (some ⟨w.heap.size+1,0,none⟩),.pointer (some ⟨w.heap.size+2,0,none⟩)])∧w'=lZ w (.slice A n ca) (.slice B m cb):=by
  go_enter Tryz.func102,Tryz.ntmps102
  go_wp2
  go_ret
  exact ⟨rfl,rfl⟩
theorem xK {W w1:World} {n₀ nb B:Nat} {t e:TypeId} {size:Nat} {v v':Value} {k m:Nat} {xs ys:List Value} {tmp:Obj}
    (hv:Boxed W B t v) (hBl:B<nb) (hrow:W.ownsRow nb e size v k xs) (hnb:nb≤W.heap.size) (h0:n₀≤nb) (hB:n₀≤B)
    (hown':w1.ownsRow nb e size v' m ys) (hgrow:(W.alloc tmp).grownBy w1 v.ownBlock) :
    Boxed w1 B t v∧Boxed (w1.setCell ⟨B,0,none⟩ v') B t v'∧(w1.setCell ⟨B,0,none⟩ v').ownsRow nb e size v' m ys∧KeepsOthers W (w1.setCell ⟨B,0,none⟩ v')∧Below n₀ W (w1.setCell ⟨B,0,none⟩ v') ∧
      ∀ i,i<nb→i≠B→(w1.setCell ⟨B,0,none⟩ v').heap[i]? = W.heap[i]? := by
  have hne:some B≠v.ownBlock:=by
    rcases hrow.2 with ⟨rfl,_⟩ | ⟨g,cap,cur,rfl,hb,_,_⟩
    · simp [Value.ownBlock]
    · simp [Value.ownBlock];omega
  have hne':some B≠v'.ownBlock:=by
    rcases hown'.2 with ⟨rfl,_⟩ | ⟨g,cap,cur,rfl,hb,_,_⟩
    · simp [Value.ownBlock]
    · simp [Value.ownBlock];omega
  have hv1:Boxed w1 B t v:=(hv.alloc tmp).kept hgrow hne;refine ⟨hv1,hv1.set v',hown'.kept (grownBy_setCell' w1 B v') (.inr hne'.symm),?_,?_,?_⟩
  · refine ((KeepsOthers.alloc W tmp).trans (KeepsOthers.of_grownBy hgrow fun j o ej hj => ?_)).trans (KeepsOthers.setCell _ _ _)
    rcases (hrow.alloc tmp).2 with ⟨rfl,_⟩ | ⟨g,cap,cur,rfl,_,hgb,_⟩
    · simp [Value.ownBlock] at ej
    · obtain rfl:g=j:=by simpa [Value.ownBlock] using ej
      rw [hgb] at hj;cases hj;rfl
  · refine (((Below.refl n₀ W).alloc (Nat.le_trans h0 hnb) tmp).grown hgrow (by simp;omega) fun j ej => ?_).setCell (p:=⟨B,0,none⟩) hB v'
    rcases hrow.2 with ⟨rfl,_⟩ | ⟨g,cap,cur,rfl,hb,_,_⟩
    · simp [Value.ownBlock] at ej
    · obtain rfl:g=j:=by simpa [Value.ownBlock] using ej
      omega
  · intro i hi aa
    rw [Below.heap_setCell _ _ _ i aa];rw [hgrow.block i (by simp;omega) (fun e' => ?_)]
    · exact Below.heap_alloc W tmp i (by omega)
    · rcases hrow.2 with ⟨rfl,_⟩ | ⟨g,cap,cur,rfl,hb,_,_⟩
      · simp [Value.ownBlock] at e'
      · obtain rfl:i=g:=by simpa [Value.ownBlock] using e'
        omega
def KI (yes:Bool→Bool→Bool) (w:World) (gy:Value) (pre:List Bd) (W:World):Prop :=
  (∃ v,Boxed W w.heap.size 110 gy∧Boxed W (w.heap.size+1) 27 v∧Boxed W (w.heap.size+2) 4 (.bool (qM yes pre).inn)∧Boxed W (w.heap.size+3) 3 (.int .i64 (qM yes pre).from_) ∧
    W.ownsRow (w.heap.size+7) 38 2 v (qM yes pre).out.length ((qM yes pre).out.flatMap fun s=>[.int .i64 s.f0,.int .i64 s.f1]))∧Below w.heap.size w W∧w.heap.size+7≤W.heap.size
theorem yD (yes:Bool→Bool→Bool) (w:World) (gy:Value):Mine (w.heap.size+7) (PvB (w.heap.size+4) (w.heap.size+5)) (KI yes w gy):=by
  rintro pre W W' row ⟨⟨v,h1,h2,h3,h4,h5⟩,hb,hs⟩ hg hr;have far:∀ k,k<w.heap.size+4→some k≠row:=by
    intro k hk e;rcases hr k e.symm with ⟨h,_⟩ | h | h <;> omega
  refine ⟨⟨v,h1.kept hg (far _ (by omega)),h2.kept hg (far _ (by omega)),h3.kept hg (far _ (by omega)),h4.kept hg (far _ (by omega)),h5.kept hg ?_⟩,hb.grown hg hb.size (fun j e => ?_),Nat.le_trans hs hg.size⟩
  · rcases h5.2 with ⟨rfl,_⟩ | ⟨g,cap,cur,rfl,hge,hgb,_⟩
    · exact .inl rfl
    · refine .inr fun e => ?_
      rcases hr g (by simpa [Value.ownBlock] using e.symm) with ⟨_,o,ho,hc⟩ | h | h
      · rw [hgb] at ho;cases ho;cases hc
      · omega
      · omega
  · rcases hr j e with ⟨h,_⟩ | h | h <;> omega
def acL (w:World) (g:Nat) (A B:Option Addr) (ca cb:Nat) (a b:List Sp) (Bx:Nat) (x:Bd):Act :=
  { tmps:=#[.slice A a.length ca,.slice B b.length cb,.func (.func g) #[] #[],undef,undef,.pointer (some ⟨w.heap.size,0,none⟩),.slice none 0 0,.pointer (some ⟨w.heap.size+1,0,none⟩),.pointer (some ⟨w.heap.size+1+1,0,none⟩),.pointer (some ⟨w.heap.size+1+1+1,0,none⟩),.pointer (some ⟨Bx,0,none⟩),undef,.slice A a.length ca,.slice B b.length cb,.func (.func 107) #[] #[.pointer (some ⟨w.heap.size+1+1+1+1,0,none⟩),.pointer (some ⟨w.heap.size+1+1+1+1+1,0,none⟩),.pointer (some ⟨w.heap.size+1+1+1+1+2,0,none⟩)],.agg #[.int .i64 x.at_,.bool x.a,.bool x.b],undef,undef,undef,undef,undef,undef,undef,undef,undef,undef,undef,undef,undef,undef,undef,undef,undef,undef,undef,undef,undef,undef,undef,undef,undef,undef,undef,undef,undef,undef],defers:=[] }
def KAx (yes:Bool→Bool→Bool) (w:World) (g:Nat) (A B:Option Addr) (ca cb:Nat) (a b:List Sp) (pre:List Bd) (x:Bd) (a':Act) (W:World):Prop :=
  ∃ Bx,w.heap.size+7≤Bx∧W.heap[Bx]? = some (.cells #[.int .i64 x.at_,.bool x.a,.bool x.b] 128 (0,0))∧a'=acL w g A B ca cb a b Bx x∧KI yes w (.func (.func g) #[] #[]) pre W
theorem ab1 (yes:Bool→Bool→Bool) (w:World) (g:Nat) (A B:Option Addr) (ca cb:Nat) (a b:List Sp) (pre:List Bd) (x:Bd):Mine (w.heap.size+7) (PvB (w.heap.size+4) (w.heap.size+5)) (KAx yes w g A B ca cb a b pre x):=by
  rintro a' W W' row ⟨Bx,hBx,hx,he,hI⟩ hg hr;refine ⟨Bx,hBx,(hg.block Bx (Array.getElem?_eq_some_iff.1 hx).1 (fun e => ?_)).trans hx,he,yD yes w _ pre W W' row hI hg hr⟩;rcases hr Bx e.symm with ⟨_,o,ho,hc⟩ | h | h
  · rw [hx] at ho;cases ho;cases hc
  · omega
  · omega
theorem sF {W:World} {nb e size k B:Nat} {v:Value} {xs:List Value} (h:W.ownsRow nb e size v k xs) (hB:B<nb):v.ownBlock≠some B:=by
  rcases h.2 with ⟨rfl,_⟩ | ⟨g,cap,cur,rfl,hb,_,_⟩
  · simp [Value.ownBlock]
  · simp [Value.ownBlock];omega
theorem mO {i j:Nat} (h:i≠j):some i≠some j:=fun e=>h (Option.some.inj e)
theorem cell_two_new (w:World) (x y:Value) (t:TypeId):∀ j u,[x,y][j]? = some u→(w.alloc (.cells #[x,y] t)).cell? ((⟨w.heap.size,0,none⟩:Addr).add j)=some u:=by
  intro j u hj
  match j,hj with
  | 0,hj=>simp at hj;subst hj;simp [Addr.add]
  | 1,hj=>simp at hj;subst hj;simp [Addr.add]
theorem qV (W:World) (n₀ j:Nat) (v:Value) (h0:n₀≤j) (h1:j<n₀+4) (B:Nat):KeepsFrom B W (W.setCell ⟨j,0,none⟩ v)∧KpB n₀ (n₀+4) (n₀+5) (n₀+6) W (W.setCell ⟨j,0,none⟩ v) :=
  ⟨(KeepsOthers.setCell _ _ _).from _,(Below.refl n₀ W).setCell (p:=⟨j,0,none⟩) h0 _,fun i hi=>Below.heap_setCell _ _ _ i (by show i≠j;omega)⟩
theorem xL {W1 W2 W3:World} {n₀ B Ba Bb Bn:Nat} (h:KeepsFrom B W1 W2∧KpB n₀ Ba Bb Bn W1 W2) (k:KeepsFrom B W2 W3∧KpB n₀ Ba Bb Bn W2 W3):KeepsFrom B W1 W3∧KpB n₀ Ba Bb Bn W1 W3 :=
  ⟨h.1.trans k.1,h.2.1.trans k.2.1,fun i hi=>(k.2.2 i hi).trans (h.2.2 i hi)⟩
theorem ab2:(Tryz.prog.info? 38).map (fun i=>(i.zero,i.size,i.bytes))=some (some (.agg #[(.int .i64 0),(.int .i64 0)]),2,16):=by kernel_rfl
set_option maxRecDepth 100000 in
set_option maxHeartbeats 2000000 in
theorem adq (yes:Bool→Bool→Bool) (g:Nat) (eg:∀ args w,(callFunc g args).run Tryz.prog w=.ok (.enter g args) w)
    (hyes:∀ a b W,Calls Tryz.prog g #[.bool a,.bool b] W fun e w'=>e=.returned (.bool (yes a b))∧W=w')
    (A B:Option Addr) (ca cb:Nat) (a b:List Sp) (w:World) (hA:Kd.C k38 w A a.length a) (hca:a.length≤ca) (hB:Kd.C k38 w B b.length b) (hcb:b.length≤cb) (ag:a.length+b.length≤many) :
    CallsIn Fence.wide 3 Tryz.prog 87 #[.slice A a.length ca,.slice B b.length cb,.func (.func g) #[] #[]] w fun e w'=>∃ v0_:Value,e=.returned v0_∧Kd.R k38 38 w' w.heap.size (fun _=>True) v0_ (rC yes a b)∧Below w.heap.size w w':=by
  obtain ⟨i0,hi,hz0,hz1,hz2⟩:=info_parts ab2;have HA:=Lib.hid hA;have HB:=Lib.hid hB;clear hA hB;refine callsIn_of_wp_marks Tryz.func87 rfl trivial ?_ rfl;simp only [Tryz.ntmps87,List.size_toArray,List.length_cons,List.length_nil,Nat.reduceAdd,Nat.reduceSub,Array.replicate_succ,Array.replicate_zero,List.push_toArray,List.append_toArray,List.nil_append,List.cons_append];gi_wp2_with fail;refine ⟨trivial,?_⟩;gi_at_call 102;refine (callsIn_wide.2 (wD A B a.length b.length ca cb _)).mono ?_;rintro e w' ⟨rfl,rfl⟩;gi_wp2_with fail;obtain ⟨w4,hw4⟩:∃ w4,((((w.alloc (.cells #[.func (.func g) #[] #[]] 110)).alloc (.cells #[.slice none 0 0] 27)).alloc (.cells #[.bool false] 4)).alloc (.cells #[.int .i64 0] 3))=w4:=⟨_,rfl⟩;have s4:w4.heap.size=w.heap.size+4:=by rw [← hw4];simp
  have x0:Boxed w4 w.heap.size 110 (.func (.func g) #[] #[]):=by rw [← hw4];exact (((Boxed.new w _ _).alloc _).alloc _).alloc _
  have x1:Boxed w4 (w.heap.size+1) 27 (.slice none 0 0):=by
    rw [← hw4];have:=Boxed.new (w.alloc (.cells #[.func (.func g) #[] #[]] 110)) 27 (.slice none 0 0);rw [World.size_alloc] at this;exact (this.alloc _).alloc _
  have x2:Boxed w4 (w.heap.size+2) 4 (.bool false):=by
    rw [← hw4];have:=Boxed.new ((w.alloc (.cells #[.func (.func g) #[] #[]] 110)).alloc (.cells #[.slice none 0 0] 27)) 4 (.bool false);rw [World.size_alloc,World.size_alloc] at this;exact this.alloc _
  have x3:Boxed w4 (w.heap.size+3) 3 (.int .i64 0):=by
    rw [← hw4];have:=Boxed.new (((w.alloc (.cells #[.func (.func g) #[] #[]] 110)).alloc (.cells #[.slice none 0 0] 27)).alloc (.cells #[.bool false] 4)) 3 (.int .i64 0);rw [World.size_alloc,World.size_alloc,World.size_alloc] at this;exact this
  have hb4:Below w.heap.size w w4:=by rw [← hw4];exact ((((Below.refl _ w).alloc (Nat.le_refl _) _).alloc (by simp) _).alloc (by simp;omega) _).alloc (by simp;omega) _
  rw [hw4];have y4:Boxed (lZ w4 (.slice A a.length ca) (.slice B b.length cb)) (w.heap.size+4) 27 (.slice A a.length ca):=by
    have:=Boxed.new w4 27 (.slice A a.length ca);rw [s4] at this;exact (this.alloc _).alloc _
  have y5:Boxed (lZ w4 (.slice A a.length ca) (.slice B b.length cb)) (w.heap.size+5) 27 (.slice B b.length cb):=by
    have:=Boxed.new (w4.alloc (.cells #[.slice A a.length ca] 27)) 27 (.slice B b.length cb);rw [World.size_alloc,s4] at this;exact this.alloc _
  have y6:Boxed (lZ w4 (.slice A a.length ca) (.slice B b.length cb)) (w.heap.size+6) 132 (.func (.func 106) #[] #[]):=by
    have:=Boxed.new ((w4.alloc (.cells #[.slice A a.length ca] 27)).alloc (.cells #[.slice B b.length cb] 27)) 132 (.func (.func 106) #[] #[]);rw [World.size_alloc,World.size_alloc,s4] at this;exact this
  have z0:=((x0.alloc (.cells #[.slice A a.length ca] 27)).alloc (.cells #[.slice B b.length cb] 27)).alloc (.cells #[.func (.func 106) #[] #[]] 132);have z1:=((x1.alloc (.cells #[.slice A a.length ca] 27)).alloc (.cells #[.slice B b.length cb] 27)).alloc (.cells #[.func (.func 106) #[] #[]] 132);have z2:=((x2.alloc (.cells #[.slice A a.length ca] 27)).alloc (.cells #[.slice B b.length cb] 27)).alloc (.cells #[.func (.func 106) #[] #[]] 132);have z3:=((x3.alloc (.cells #[.slice A a.length ca] 27)).alloc (.cells #[.slice B b.length cb] 27)).alloc (.cells #[.func (.func 106) #[] #[]] 132);have hbL:Below w.heap.size w (lZ w4 (.slice A a.length ca) (.slice B b.length cb)):=by
    unfold lZ;exact ((hb4.alloc (by omega) _).alloc (by simp;omega) _).alloc (by simp;omega) _
  have sL:(lZ w4 (.slice A a.length ca) (.slice B b.length cb)).heap.size=w.heap.size+7:=by unfold lZ;simp;omega
  change Boxed (lZ w4 (.slice A a.length ca) (.slice B b.length cb)) _ _ _ at z0 z1 z2 z3;generalize lZ w4 (.slice A a.length ca) (.slice B b.length cb)=wL at *;clear hw4 s4 x0 x1 x2 x3 hb4 w4;have hseq:aaQ Fence.wide 2 Tryz.prog 107 #[.pointer (some ⟨w.heap.size+4,0,none⟩),.pointer (some ⟨w.heap.size+5,0,none⟩),.pointer (some ⟨w.heap.size+6,0,none⟩)] adT (KpB w.heap.size (w.heap.size+4) (w.heap.size+5) (w.heap.size+6)) (PvB (w.heap.size+4) (w.heap.size+5)) (fun xs=>xs=qm a false b false) (qm a false b false).length wL:=by
    intro l J W hW hJ hY h0;refine yC 2 (by omega) w _ _ _ l (by omega) (by omega) (by omega) (by omega) (by omega) A B ca cb a b ag J hJ hY W ⟨?_,?_,?_,HA.out,hca,HB.out,hcb,?_,h0,rfl,Nat.le_refl _⟩
    · exact (hW.block _ y4.lt).trans y4
    · exact (hW.block _ y5.lt).trans y5
    · exact (hW.block _ y6.lt).trans y6
    · exact hbL.trans (hW.mono (by omega))
  have hN:(qm a false b false).length≤2*many:=aaR _ a false b false (by simp [msr];omega);refine zU rfl (by omega) (gf:=107) rfl trivial (enters_of Tryz.func107 (by kernel_rfl) rfl) hseq ?hKt ?hKb (Below.refl _ _) (fun _=>rfl) (KI yes w (.func (.func g) #[] #[])) ?hI ?h0 (KAx yes w g A B ca cb a b) ?hAx ?assign ?body ?done
  case hKt=>exact fun h k=>⟨h.1.trans k.1,fun i hi=>(k.2 i hi).trans (h.2 i hi)⟩
  case hKb =>
    intro W l o o' hl ho hc hw;exact ⟨belowK_b (w:=w) (Nat.le_refl _) W l o o' (by omega) ho hc hw,fun i hi=>World.putObj_heap_other (by omega)⟩
  case hI=>rw [sL];exact yD yes w _
  case hAx=>rw [sL];exact fun pre x=>ab1 yes w g A B ca cb a b pre x
  case h0=>exact ⟨⟨_,z0,z1,z2,z3,by simpa [qM] using World.ownsRow_nil _ _ _ _⟩,hbL,by omega⟩
  case assign =>
    intro l pre x W K hI hK;have hs:=hI.2.2;clear hseq;unfold adT;gi_wp2;refine hK _ _ ((KeepsOthers.alloc _ _).from _) ⟨(Below.refl _ W).alloc (by omega) _,fun i hi=>Below.heap_alloc W _ i (by omega)⟩ ⟨W.heap.size,hs,?_,rfl,(yD yes w _).alloc _ hI⟩;exact World.alloc_heap_new W _
  case body =>
    rintro l pre x a' W ⟨Bx,hBx,hx,rfl,⟨v,h0,h1,h2,h3,hrow⟩,hb,hsz⟩ hlt;have hlen:=aaT yes pre;have hks:=zV yes pre x;obtain ⟨st,hst⟩:∃ st,qM yes pre=st:=⟨_,rfl⟩;rw [hst] at h2 h3 hrow hlen hks;obtain ⟨inn,from_,out⟩:=st;obtain ⟨t,xa,xb⟩:=x;simp only [p8] at hks;obtain ⟨now,ae⟩:∃ now,yes xa xb=now:=⟨_,rfl⟩;rw [ae] at hks;dsimp only at h2 h3 hrow hlen hx;have c0:=h0.cell;have c1:=h1.cell;have c2:=h2.cell;have c3:=h3.cell;have f1:=h1.frozen;have f2:=h2.frozen;have f3:=h3.frozen;have e0:W.cell? ⟨Bx,0,none⟩=some (.int .i64 t):=by simp [World.cell?,hx]
    have e1:W.cell? ⟨Bx,1,none⟩=some (.bool xa):=by simp [World.cell?,hx]
    have e2:W.cell? ⟨Bx,2,none⟩=some (.bool xb):=by simp [World.cell?,hx]
    have HY:=Lib.hid (hyes xa xb);have ab:=Lib.hid ae;have aa:=Lib.hid hks;have HST:=Lib.hid hst;clear ae hks hst hyes hseq hx;unfold acL;gi_wp2_with fail;refine ⟨trivial,?_⟩;refine (CallsIn.inRound l (callsIn_wide.2 (HY.out W))).mono ?_;rintro e w' ⟨rfl,rfl⟩;rw [ab.out];have hj2:w.heap.size+2<w.heap.size+7:=by omega
    cases now
    · cases inn
      · have hk:qM yes (pre++[⟨t,xa,xb⟩])=⟨false,from_,out⟩:=by have:=aa.out;simpa [ab.out] using this
        have ac:=Lib.hid hk;clear hk aa;gi_wp2;obtain ⟨q1,q2⟩:=qV W w.heap.size (w.heap.size+2) (.bool false) (by omega) (by omega) wL.heap.size;refine ⟨q1,q2,⟨v,?_⟩,hb.trans q2.1,Nat.le_trans hsz q1.size⟩;rw [ac.out];exact ⟨h0.kept (grownBy_setCell' W _ _) (mO (by omega)),h1.kept (grownBy_setCell' W _ _) (mO (by omega)),h2.set _,h3.kept (grownBy_setCell' W _ _) (mO (by omega)),hrow.kept (grownBy_setCell' W _ _) (.inr (sF hrow (by omega)))⟩
      · have hk:qM yes (pre++[⟨t,xa,xb⟩])=⟨false,from_,out++[⟨from_,wrap64 (t - 1)⟩]⟩:=by have:=aa.out;simpa [ab.out] using this
        have ac:=Lib.hid hk;clear hk aa;have hmm:pre.length<2*many:=Nat.lt_of_lt_of_le hlt hN;have hm1:out.length+1≤2000000000:=by unfold many at hmm;omega
        gi_wp2_with (gi_at_builtin;refine wpListIn_append_own _ rfl _ _ 27 rfl (w.heap.size+7) 38 i0 (.agg #[(.int .i64 0),(.int .i64 0)]) 2 16 Tryz.underlying27 hi hz0 hz1 hz2 rfl (by decide) _ _ _ rfl (hrow.alloc _) ⟨W.heap.size,0,none⟩ 1 1 [.int .i64 from_,.int .i64 (wrap64 (t - 1))] rfl rfl (cell_two_new _ _ _ _) (by simp [Value.oneCell']) (by unfold maxLen;omega) (by omega) (by simp;omega) ?_;intro v' w1 hown' hgrow _;obtain ⟨g',cap',rfl⟩:=ownsRow_succ hown';obtain ⟨hv1,hv2,hr2,hk2,hb2,af⟩:=xK (n₀:=w.heap.size) (nb:=w.heap.size+7) h1 (by omega) hrow hsz (by omega) (by omega) hown' hgrow;have hc1:=hv1.cell;have hf1:=hv1.frozen;have h2':Boxed w1 (w.heap.size+2) 4 (.bool true):=(h2.alloc _).kept hgrow (sF hrow (by omega)).symm;have hf2:=h2'.frozen;have hc2:=h2'.cell)
        have k2:KeepsFrom wL.heap.size W (w1.setCell ⟨w.heap.size+1,0,none⟩ (.slice (some ⟨g',0,none⟩) (out.length+1) cap'))∧KpB w.heap.size (w.heap.size+4) (w.heap.size+5) (w.heap.size+6) W (w1.setCell ⟨w.heap.size+1,0,none⟩ (.slice (some ⟨g',0,none⟩) (out.length+1) cap')):=⟨hk2.from _,hb2,fun i hi=>af i (by omega) (by omega)⟩;obtain ⟨q1,q2⟩:=xL k2 (qV _ w.heap.size (w.heap.size+2) (.bool false) (by omega) (by omega) wL.heap.size);refine ⟨q1,q2,⟨.slice (some ⟨g',0,none⟩) (out.length+1) cap',?_⟩,hb.trans q2.1,Nat.le_trans hsz q1.size⟩;rw [ac.out];have r0:Boxed (w1.setCell ⟨w.heap.size+1,0,none⟩ (.slice (some ⟨g',0,none⟩) (out.length+1) cap')) w.heap.size 110 (.func (.func g) #[] #[]):=(af _ (by omega) (by omega)).trans h0;have r2:Boxed (w1.setCell ⟨w.heap.size+1,0,none⟩ (.slice (some ⟨g',0,none⟩) (out.length+1) cap')) (w.heap.size+2) 4 (.bool true):=(af _ (by omega) (by omega)).trans h2;have r3:Boxed (w1.setCell ⟨w.heap.size+1,0,none⟩ (.slice (some ⟨g',0,none⟩) (out.length+1) cap')) (w.heap.size+3) 3 (.int .i64 from_):=(af _ (by omega) (by omega)).trans h3;exact ⟨r0.kept (grownBy_setCell' _ _ _) (mO (by omega)),hv2.kept (grownBy_setCell' _ _ _) (mO (by omega)),r2.set _,r3.kept (grownBy_setCell' _ _ _) (mO (by omega)),by simpa using hr2.kept (grownBy_setCell' _ (w.heap.size+2) _) (.inr (sF hr2 (by omega)))⟩
    · cases inn
      · have hk:qM yes (pre++[⟨t,xa,xb⟩])=⟨true,t,out⟩:=by have:=aa.out;simpa [ab.out] using this
        have ac:=Lib.hid hk;clear hk aa;gi_wp2;obtain ⟨q1,q2⟩:=xL (qV W w.heap.size (w.heap.size+3) (.int .i64 t) (by omega) (by omega) wL.heap.size) (qV _ w.heap.size (w.heap.size+2) (.bool true) (by omega) (by omega) wL.heap.size);refine ⟨q1,q2,⟨v,?_⟩,hb.trans q2.1,Nat.le_trans hsz q1.size⟩;rw [ac.out];exact ⟨(h0.kept (grownBy_setCell' W _ _) (mO (by omega))).kept (grownBy_setCell' _ _ _) (mO (by omega)),(h1.kept (grownBy_setCell' W _ _) (mO (by omega))).kept (grownBy_setCell' _ _ _) (mO (by omega)),(h2.kept (grownBy_setCell' W (w.heap.size+3) _) (mO (by omega))).set _,(h3.set _).kept (grownBy_setCell' _ (w.heap.size+2) _) (mO (by omega)),(hrow.kept (grownBy_setCell' W _ _) (.inr (sF hrow (by omega)))).kept (grownBy_setCell' _ _ _) (.inr (sF hrow (by omega)))⟩
      · have hk:qM yes (pre++[⟨t,xa,xb⟩])=⟨true,from_,out⟩:=by have:=aa.out;simpa [ab.out] using this
        have ac:=Lib.hid hk;clear hk aa;gi_wp2;obtain ⟨q1,q2⟩:=qV W w.heap.size (w.heap.size+2) (.bool true) (by omega) (by omega) wL.heap.size;refine ⟨q1,q2,⟨v,?_⟩,hb.trans q2.1,Nat.le_trans hsz q1.size⟩;rw [ac.out];exact ⟨h0.kept (grownBy_setCell' W _ _) (mO (by omega)),h1.kept (grownBy_setCell' W _ _) (mO (by omega)),h2.set _,h3.kept (grownBy_setCell' W _ _) (mO (by omega)),hrow.kept (grownBy_setCell' W _ _) (.inr (sF hrow (by omega)))⟩
  case done =>
    rintro D xs W hD rfl ⟨⟨v,h0,h1,h2,h3,hrow⟩,hb,hsz⟩ hK;have c1:=h1.cell;clear hseq;gi_wp2;refine ⟨by simp,.inl ⟨_,_,rfl,run_takeDeferred hK,?_⟩⟩;exact ⟨_,results_tmp rfl _ _ _,v,rfl,ab0 (ownsRow_putObj hrow _ hK rfl) (by omega),hb.trans (belowK_b (w:=w) (Nat.le_refl _) W D _ _ (by omega) hK rfl rfl)⟩
end Go.Proofs.YtmbmalkpmanaaaaGreat.P
namespace Go.Proofs.YtmbmalkpmanaaaaGreat.P
set_option linter.unusedVariables false
set_option linter.unusedSimpArgs false
open Go.RowKit Go.Shelf Go.Proofs.YtmbmalkpmanaaaaGreatW.iD Go.Proofs.YtmbmalkpmanaaaaGreatW.jA Go.Proofs.YtmbmalkpmanaaaaGreatW.jw Go.Proofs.YtmbmalkpmanaaaaGreat.zo
def nC.f (l0 l1:List Sp):Option (List Sp):=if l0.length+l1.length≤many then some (rC (fun a b=>a&&b) l0 l1) else none
theorem zZ (yes:Bool→Bool→Bool) (g:Nat) (eg:∀ args w,(callFunc g args).run Tryz.prog w=.ok (.enter g args) w)
    (hyes:∀ a b W,Calls Tryz.prog g #[.bool a,.bool b] W fun e w'=>e=.returned (.bool (yes a b))∧W=w')
    (A B:Option Addr) (ca cb:Nat) (a b:List Sp) (w:World) (hA:Kd.C k38 w A a.length a) (hca:a.length≤ca) (hB:Kd.C k38 w B b.length b) (hcb:b.length≤cb) (aa:a.length+b.length≤many) :
    Calls Tryz.prog 87 #[.slice A a.length ca,.slice B b.length cb,.func (.func g) #[] #[]] w fun e w'=>∃ v0_:Value,e=.returned v0_∧Kd.R k38 38 w' w.heap.size (fun _=>True) v0_ (rC yes a b)∧Below w.heap.size w w' :=
  (callsIn_wide (n:=3)).1 (adq yes g eg hyes A B ca cb a b w hA hca hB hcb aa)
theorem afu (a b:Bool) (W:World):Calls Tryz.prog 88 #[.bool a,.bool b] W fun e w'=>e=.returned (.bool (a&&b))∧W=w':=by
  cases a <;> cases b
  all_goals
    go_enter Tryz.func88,Tryz.ntmps88
    go_wp2
    go_ret
    exact ⟨rfl,rfl⟩
theorem nC.calls (A0:Option Addr) (c0:Nat) (l0:List Sp) (A1:Option Addr) (c1:Nat) (l1:List Sp) (r:List Sp) (w:World) (hr0:Kd.C k38 w A0 l0.length l0) (hc0:l0.length≤c0) (hr1:Kd.C k38 w A1 l1.length l1) (hc1:l1.length≤c1) (h:nC.f l0 l1=some r) :
    Calls Tryz.prog 67 #[.slice A0 l0.length c0,.slice A1 l1.length c1] w fun e w'=>∃ v0_:Value,e=.returned (v0_)∧Kd.R k38 38 w' w.heap.size (fun _=>True) v0_ r∧Below w.heap.size w w':=by
  unfold nC.f at h;by_cases hm:l0.length+l1.length≤many
  · rw [if_pos hm] at h
    cases h
    have hk:=Lib.hid (zZ (fun a b=>a&&b) 88 (enters_of Tryz.func88 (by kernel_rfl) rfl) afu A0 A1 c0 c1 l0 l1 w hr0 hc0 hr1 hc1 hm);clear hr0 hr1 hm;go_enter Tryz.func67,Tryz.ntmps67;go_wp2_with (go_at_call 87;refine hk.out.mono ?_;rintro e w' ⟨v,rfl,hR,hb⟩);go_ret;exact ⟨v,rfl,hR,hb⟩
  · rw [if_neg hm] at h;cases h
end Go.Proofs.YtmbmalkpmanaaaaGreat.P

/- Lemmas for laws of chapter 7: what the functions that they reach compute. No condition of its own. -/
import Derived.Test.YtmbmalkpmanaaaaGreatYH2
import Derived.Test.YtmbmalkpmanaaaaGreatYH1
import Derived.Maps.OwnOps
import Derived.Maps.Views
namespace Go.Proofs.YtmbmalkpmanaaaaGreat.P
open Go.RowKit Go.Proofs.YtmbmalkpmanaaaaGreatW.iD Go.Proofs.YtmbmalkpmanaaaaGreatW.jA Go.Proofs.YtmbmalkpmanaaaaGreatW.jw
set_option linter.unusedVariables false
def rl:Bool→List Nat→List Bool
  | _,[]=>[]
  | b,n :: r=>List.replicate n b++rl (!b) r
def rs (b:Bool) (l:List Nat):Array Bool:=⟨rl b l⟩
theorem kp {A B:Prop} (h:A) (s:A→B:=by intro h;(with_reducible repeat (first | refine gV ?_ _ | refine gQ ?_ | refine gM ?_ _));exact h):B:=s h
theorem bl {A B:Prop} (h:A) (s:A→B:=by intro h;repeat (first | (with_reducible first | exact h | apply jm | apply jf | apply iQ) | exact h)):B:=s h
theorem bl1 {A B G:Prop} (h:A) (g:G) (s:A→G→B:=by intro h g;repeat (first | (with_reducible first | exact h | apply jm | apply jf | apply iQ | refine iK ?_ g) | exact h)):B:=s h g
theorem bl2 {A B G G2:Prop} (h:A) (g:G) (g2:G2) (s:A→G→G2→B:=by intro h g g2;repeat (first | (with_reducible first | exact h | apply jm | apply jf | apply iQ | refine iK ?_ g | refine iK ?_ g2) | exact h)):B:=s h g g2
theorem bl3 {A B G G2 G3:Prop} (h:A) (g:G) (g2:G2) (g3:G3) (s:A→G→G2→G3→B:=by intro h g g2 g3;repeat (first | (with_reducible first | exact h | apply jm | apply jf | apply iQ | refine iK ?_ g | refine iK ?_ g2 | refine iK ?_ g3) | exact h)):B:=s h g g2 g3
theorem kr {A B:Prop} (h:A) (s:A→B:=by intro h;(with_reducible repeat (first | apply Kd.jX | apply Kd.jY | apply Kd.jF));exact h):B:=s h
theorem kn {A B:Prop} (h:A) (s:A→B:=by intro h;(with_reducible repeat (first | apply Kd.nV | apply Kd.nW | apply Kd.oN));exact h):B:=s h
theorem kv {A B:Prop} (h:A) (s:A→B:=by intro h;(with_reducible repeat (first | apply Kd.lH | apply Kd.lI | apply Kd.mh));exact h):B:=s h
theorem kc {A B:Prop} (h:A) (s:A→B:=by intro h;repeat (first | exact h | (with_reducible refine Kd.qz ?_ _) | (with_reducible refine Kd.qA ?_ _) | (with_reducible refine Kd.rE ?_))):B:=s h
theorem am {p:Prop} (h:p):gL p:=⟨h⟩
theorem bc {w:World} {g:Nat} {t:TypeId} {cs:Array Value} {v:Value} (h:w.heap[g]? = some (.cells cs t (0,0))) (i:Nat) (e:cs[i]? = some v:=by rfl):w.cell? ⟨g,i,none⟩=some v:=(iY h i).trans e
theorem rt {p:Prop} (h:p:=by first | rfl | (simp [jV,jW] <;> rfl) | (simp [*,jV,jW] <;> rfl)):p:=h
theorem sm {p:Prop} (h:p:=by first | rfl | (simp;done) | (simp [*];done)):p:=h
theorem ar {p:Prop} (h:p:=by (try simp only [List.map_toArray,List.map_cons,List.map_nil]);first | done | rfl | (simp only [List.length_drop,List.length_take];rfl)):p:=h
theorem asm {p:Prop} (h:p:=by first | (with_reducible assumption) | assumption):p:=h
theorem kf {A B N:Prop} (h:A) (n:N) (s:A→N→B:=by intro h n;(repeat (first | (with_reducible first | refine gV ?_ _ | refine gQ ?_ | refine gM ?_ _) | refine ac8 ?_ n _));exact h):B:=s h n
theorem nl {g g2:Nat} {w:World} (hg:g2=w.heap.size) {A:Prop} (h:A) (s:A→g<w.heap.size:=by intro h;exact pR (kp h)):g≠g2:=by rw [hg];exact Nat.ne_of_lt (s h)
theorem ng {g g2:Nat} {w:World} (hg:g2=w.heap.size) {A:Prop} (h:A) (s:A→g<w.heap.size:=by intro h;exact pR (kp h)):g2≠g:=by rw [hg];exact Nat.ne_of_gt (s h)
theorem bz {g:Nat} {w w1:World} (hg:g=w1.heap.size) {A:Prop} (h:A) (s:A→Below w.heap.size w w1:=by intro h;exact bl h):w.heap.size≤g:=by rw [hg];exact iL (s h)
theorem bz1 {g:Nat} {w w1:World} (hg:g=w1.heap.size) {A G:Prop} (h:A) (q:G) (s:A→G→Below w.heap.size w w1:=by intro h q;exact bl1 h q):w.heap.size≤g:=by rw [hg];exact iL (s h q)
theorem bz2 {g:Nat} {w w1:World} (hg:g=w1.heap.size) {A G G2:Prop} (h:A) (q:G) (q2:G2) (s:A→G→G2→Below w.heap.size w w1:=by intro h q q2;exact bl2 h q q2):w.heap.size≤g:=by rw [hg];exact iL (s h q q2)
theorem bz3 {g:Nat} {w w1:World} (hg:g=w1.heap.size) {A G G2 G3:Prop} (h:A) (q:G) (q2:G2) (q3:G3) (s:A→G→G2→G3→Below w.heap.size w w1:=by intro h q q2 q3;exact bl3 h q q2 q3):w.heap.size≤g:=by rw [hg];exact iL (s h q q2 q3)
section
variable {P:Program} {ops:Array Oper} {rest:List Oper} {o:Oper} {a:Act} {Q:Exit→Act→World→Prop}
theorem bx {W:World} (N:Tmp) (t:TypeId) (cs:Array Value)
    (h:∀ g,g=W.heap.size→∀ w1,w1.heap[g]? = some (.cells cs t (0,0))→Below W.heap.size W w1→wpList P ops Q rest (a.put o.dst (.pointer (some ⟨g,0,none⟩))) w1)
    (hd:o.dst=some N:=by rfl) (hg:o.guard=none:=by rfl)
    (hr:(execOp a.eval o).run P W=.ok (.value (.pointer (some ⟨W.heap.size,0,none⟩))) (W.alloc (.cells cs t (0,0))):=by first | (go_simp;done) | (go_simp;rfl)):wpList P ops Q (o :: rest) a W:=aaC hg hd hr h
end
section
variable {P:Program} {ops:Array Oper} {Q:Exit→Act→World→Prop} {md:Region.Mode} {S:World→Prop} {ds:List Nat} {T:Bool × List (List Nat × List Nat)} {BB:List Nat}
theorem px (i n:Nat) (l':Array Bool) {oi:Oper} {v:Value} {fuel:Nat} {l:Array Bool} {a:Act} {w:World} (hT:qc md ops=T) {a':Act} (h:jU P md ops Q S ds fuel l' a' w)
    (hi:ops[i]? = some oi:=by rfl) (hN:oi.dst=some n:=by rfl) (hc:aeL T l.toList l'.toList i=true:=by kernel_rfl) (hQ:∀ c a w,Q (.panic c) (a.put oi.dst v) w→Q (.panic c) a w:=by exact fun _ _ _ h=>h)
    (hy:Yields P ops oi v a:=by (refine Or.inl ⟨by rfl,?_⟩);intro w';go_simp;with_reducible rfl) (ha:a.put (some n) v=a':=by simp only [Act.put,List.setIfInBounds_toArray,List.set_cons_zero,List.set_cons_succ,nA,pF];rfl):jU P md ops Q S ds (fuel+1) l a w :=
  ad6 l' hi hN (acD hT hc) hQ hy ha h
theorem pu (i n:Nat) (l':Array Bool) {oi:Oper} {fuel:Nat} {l:Array Bool} {a:Act} {w:World} (hT:qc md ops=T) {a':Act} (h:jU P md ops Q S ds fuel l' a' w)
    (hi:ops[i]? = some oi:=by rfl) (hN:oi.dst=some n:=by rfl) (hc:aeL T l.toList l'.toList i=true:=by kernel_rfl) (hQ:∀ c a w,Q (.panic c) (a.put oi.dst undef) w→Q (.panic c) a w:=by exact fun _ _ _ h=>h)
    (hy:Yields P ops oi undef a:=by exact Or.inr ⟨by rfl,rfl⟩) (ha:a.put (some n) undef=a':=by simp only [Act.put,List.setIfInBounds_toArray,List.set_cons_zero,List.set_cons_succ,nA,pF];rfl):jU P md ops Q S ds (fuel+1) l a w :=
  ad6 l' hi hN (acD hT hc) hQ hy ha h
theorem tx (i n:Nat) (l':Array Bool) {oi:Oper} {v:Value} {fuel:Nat} {l:Array Bool} {a:Act} {w:World} (hT:qc md ops=T) (hW:l8 T.2 BB=true) (hS:S w) {a':Act} (h:jU P md ops Q S ds fuel l' a' w)
    (hi:ops[i]? = some oi:=by rfl) (hN:oi.dst=some n:=by rfl) (hc:ade T BB ds l.toList l'.toList i=true:=by kernel_rfl) (hQ:∀ c a w,Q (.panic c) (a.put oi.dst v) w→Q (.panic c) a w:=by exact fun _ _ _ h=>h)
    (hy:YieldsIf P ops S oi v a:=by (refine Or.inl ⟨by rfl,?_⟩);intro w' hs;(repeat (have s:=And.left hs;replace hs:=And.right hs));go_simp;with_reducible rfl) (ha:a.put (some n) v=a':=by simp only [Act.put,List.setIfInBounds_toArray,List.set_cons_zero,List.set_cons_succ,nA,pF];rfl):jU P md ops Q S ds (fuel+1) l a w :=
  ac7 l' hi hN (abR hT hW hc) hQ hy hS ha h
theorem nx (n:Nat) {fuel:Nat} {l:Array Bool} {b a':Act} {od:Option Tmp} {v:Value} {w:World} (h:jU P md ops Q S ds fuel l a' w) (hN:od=some n:=by rfl)
    (ha:b.put (some n) v=a':=by simp only [Act.put,List.setIfInBounds_toArray,List.set_cons_zero,List.set_cons_succ,nA,pF];rfl):jU P md ops Q S ds fuel l (b.put od v) w:=aeS (by subst hN;exact ha) h
end
theorem an {A B:Prop} (a:A) (b:B):A∧B:=⟨a,b⟩
theorem mo {A B:Prop} (h:A) (s:A→B:=by intro h;(repeat' first | (with_reducible apply h.1) | (with_reducible apply h.2.1) | (with_reducible apply h.2.2.1) | (with_reducible apply h.2.2.2.1) | (with_reducible apply h.2.2.2.2.1) | (with_reducible apply h.2.2.2.2.2.1) | (with_reducible apply h.2.2.2.2.2.2.1) | (with_reducible apply h.2.2.2.2.2.2.2.1) | (with_reducible apply h.2.2.2.2.2.2.2.2.1) | (with_reducible apply h.2.2.2.2.2.2.2.2.2.1) | (with_reducible exact LeO.refl _) | (with_reducible exact LeO.none _) | (with_reducible refine LeO.ite ?_ ?_) | (with_reducible refine LeO.bind ?_ (fun _ => ?_)) | apply h.1 | apply h.2.1 | apply h.2.2.1 | apply h.2.2.2.1 | exact LeO.none _ | refine LeO.ite ?_ ?_ | refine LeO.bind ?_ (fun _ => ?_))):B:=s h
section
variable {w w0 w1:World} {g:Nat} {o:Obj} {t:TypeId} {v0 v1 v2 v3:Value} {r:List Value}
theorem b1 (h:w.heap[g]? = some (.cells (v0 :: r).toArray t (0,0))):w.cell? ⟨g,0,none⟩=some v0∧w.frozen? ⟨g,0,none⟩=false:=⟨iY h 0,kQ h 0⟩
theorem b2 (h:w.heap[g]? = some (.cells (v0 :: v1 :: r).toArray t (0,0))):w.cell? ⟨g,0,none⟩=some v0∧w.cell? ⟨g,1,none⟩=some v1∧w.frozen? ⟨g,0,none⟩=false∧w.frozen? ⟨g,1,none⟩=false:=⟨iY h 0,iY h 1,kQ h 0,kQ h 1⟩
theorem b3 (h:w.heap[g]? = some (.cells (v0 :: v1 :: v2 :: r).toArray t (0,0))):w.cell? ⟨g,0,none⟩=some v0∧w.cell? ⟨g,1,none⟩=some v1∧w.cell? ⟨g,2,none⟩=some v2∧w.frozen? ⟨g,0,none⟩=false∧w.frozen? ⟨g,1,none⟩=false∧w.frozen? ⟨g,2,none⟩=false:=⟨iY h 0,iY h 1,iY h 2,kQ h 0,kQ h 1,kQ h 2⟩
theorem b4 (h:w.heap[g]? = some (.cells (v0 :: v1 :: v2 :: v3 :: r).toArray t (0,0))):w.cell? ⟨g,0,none⟩=some v0∧w.cell? ⟨g,1,none⟩=some v1∧w.cell? ⟨g,2,none⟩=some v2∧w.cell? ⟨g,3,none⟩=some v3∧w.frozen? ⟨g,0,none⟩=false∧w.frozen? ⟨g,1,none⟩=false∧w.frozen? ⟨g,2,none⟩=false∧w.frozen? ⟨g,3,none⟩=false:=⟨iY h 0,iY h 1,iY h 2,iY h 3,kQ h 0,kQ h 1,kQ h 2,kQ h 3⟩
theorem xk {A:Prop} (h:gL A) (hb:Below w.heap.size w w1) (s:A→w.heap[g]? = some o:=by intro h;(with_reducible repeat (first | refine gV ?_ _ | refine gQ ?_ | refine gM ?_ _));exact h):gL (w1.heap[g]? = some o):=⟨gU (s h.out) hb⟩
theorem xb {A:Prop} (h:gL A) (hb:Below w.heap.size w w1) (s:A→Below w0.heap.size w0 w:=by intro h;exact bl h):gL (Below w0.heap.size w0 w1):=⟨kR (s h.out) hb⟩
theorem xb1 {A G:Prop} (h:gL A) (q:gL G) (hb:Below w.heap.size w w1) (s:A→G→Below w0.heap.size w0 w:=by intro h q;exact bl1 h q):gL (Below w0.heap.size w0 w1):=⟨kR (s h.out q.out) hb⟩
theorem xb2 {A G G2:Prop} (h:gL A) (q:gL G) (q2:gL G2) (hb:Below w.heap.size w w1) (s:A→G→G2→Below w0.heap.size w0 w:=by intro h q q2;exact bl2 h q q2):gL (Below w0.heap.size w0 w1):=⟨kR (s h.out q.out q2.out) hb⟩
theorem xb3 {A G G2 G3:Prop} (h:gL A) (q:gL G) (q2:gL G2) (q3:gL G3) (hb:Below w.heap.size w w1) (s:A→G→G2→G3→Below w0.heap.size w0 w:=by intro h q q2 q3;exact bl3 h q q2 q3):gL (Below w0.heap.size w0 w1):=⟨kR (s h.out q.out q2.out q3.out) hb⟩
theorem xc {ad:Addr} {u:Value} (h:gL (Below w.heap.size w w1)) (hx:w.cell? ad=some u):w1.cell? ad=some u:=(h.out.cell (World.block_lt_of_cell? w _ hx)).trans hx
variable {α:Type} {d:Kd α} {e base:Nat} {ok:Nat→Prop} {v:Value} {xs:List α}
theorem xr {A:Prop} (h:gL A) (hb:Below w.heap.size w w1) (s:A→d.R e w base ok v xs:=by intro h;(with_reducible repeat (first | apply Kd.jX | apply Kd.jY | apply Kd.jF));exact h):gL (d.R e w1 base ok v xs):=⟨Kd.nG (s h.out) hb⟩
theorem xv {A:Prop} (h:gL A) (hb:Below w.heap.size w w1) (s:A→Kd.V d e w base ok v xs:=by intro h;(with_reducible repeat (first | apply Kd.lH | apply Kd.lI | apply Kd.mh));exact h):gL (Kd.V d e w1 base ok v xs):=⟨Kd.pq (s h.out) hb⟩
theorem xn {A:Prop} (h:gL A) (hb:Below w.heap.size w w1) (s:A→Kd.N d e w base ok v xs:=by intro h;(with_reducible repeat (first | apply Kd.nV | apply Kd.nW | apply Kd.oN));exact h):gL (Kd.N d e w1 base ok v xs):=⟨Kd.ql (s h.out) hb⟩
variable {P:Program} {ops:Array Oper} {rest:List Oper} {oi:Oper} {a:Act} {Q:Exit→Act→World→Prop}
theorem gl (N:Tmp) {f:FuncId} {fn:Func} {ax:Array Operand} {ts:Array TypeId} (hf:P.funcs[f]? = some fn) (args:Array Value)
    (h:Calls P f args w fun e w'=>∃ v,e=.returned v∧wpList P ops Q rest (a.put (some N) v) w')
    (hd:oi.dst=some N:=by rfl) (hg:oi.guard=none:=by rfl) (hname:(fn.name == "runtime.NumGoroutine")=false:=by kernel_rfl) (hb:fn.body.isSome=true:=by rfl)
    (hop:oi.op=.call { callee:=.value (.func f),args:=ax,argTypes:=ts }:=by rfl) (hargs:ax.map a.eval=args:=by (try simp only [List.map_toArray,List.map_cons,List.map_nil]);first | done | rfl | (simp only [List.length_drop,List.length_take];rfl)):wpList P ops Q (oi :: rest) a w:=xw (some N) hd hg hf hname hb args hop hargs h
end
end Go.Proofs.YtmbmalkpmanaaaaGreat.P
namespace Go.Proofs.YtmbmalkpmanaaaaGreat.P
open Go.RowKit Go.Proofs.YtmbmalkpmanaaaaGreatW.iD Go.Proofs.YtmbmalkpmanaaaaGreatW.jA Go.Proofs.YtmbmalkpmanaaaaGreatW.jw
attribute [local go_sem] lS lT mG mH kU kV lU lV   -- for this text's walks alone
set_option linter.unusedVariables false
set_option linter.unusedSimpArgs false
def mJ.f  : Option (Int × Int × (List (List (S38))) × (List (S50))):=some (7,1,(([(([(⟨0,4⟩:S38)]:List (S38)))]:List (List (S38)))),([]:List (S50)))
set_option maxHeartbeats 8000000 in
set_option maxRecDepth 100000 in
theorem mJ.calls  (r1:Int) (r2:Int) (r3:List (List (S38))) (r4:List (S50)) (w:World) (h:mJ.f  = some (r1,r2,r3,r4)) :
 Calls Tryz.prog 22 #[] w fun e w'=>∃ av aw:Value,e=.returned (.agg #[.int .i64 r1,.int .i64 r2,av,aw])∧Kd.N (Kd.slice 38 k38) 27 w' w.heap.size (fun k_=>(w.heap.size≤k_)∧some k_≠(aw:Value).ownBlock) av r3∧Kd.N k50 50 w' w.heap.size (fun k_=>(w.heap.size≤k_)∧some k_≠(av:Value).ownBlock) aw r4∧Below w.heap.size w w':=by
 have aR:=Tryz.underlying25;have aS:=Tryz.underlying38;have HB:=am (Below.refl w.heap.size w);have H:(some (7,1,(([(([(⟨0,4⟩:S38)]:List (S38)))]:List (List (S38)))),([]:List (S50))))=some (r1,r2,r3,r4):=h;clear h;obtain ⟨ah,af⟩:∃ y_:List (S38),y_=(([(⟨0,4⟩:S38)]:List (S38))):=⟨_,rfl⟩;replace H:(some (7,1,(([ah]:List (List (S38)))),([]:List (S50))))=some (r1,r2,r3,r4):=by first | (rw [af];with_reducible exact H) | (have ai:=(Option.bind_some _ _).symm.trans H;rw [af];with_reducible exact ai) | (have ai:=(Option.bind_some _ _).symm.trans H;with_reducible exact ai) | with_reducible exact H | (rw [af];exact H) | exact H
 have ap:=am af;clear af;obtain ⟨ak,ag⟩:∃ y_:List (List (S38)),y_=(([ah]:List (List (S38)))):=⟨_,rfl⟩;replace H:(some (7,1,ak,([]:List (S50))))=some (r1,r2,r3,r4):=by first | (rw [ag];with_reducible exact H) | (have ai:=(Option.bind_some _ _).symm.trans H;rw [ag];with_reducible exact ai) | (have ai:=(Option.bind_some _ _).symm.trans H;with_reducible exact ai) | with_reducible exact H | (rw [ag];exact H) | exact H
 have aq:=am ag;clear ag;simp only [Option.some.injEq,Prod.mk.injEq] at H;obtain ⟨rfl,rfl,rfl,rfl⟩:=H;go_enter Tryz.func22,Tryz.ntmps22
 go_wp2_with (first | ((with_reducible refine iC (N:=0) rfl ?_);refine bx 0 25 #[.int .i64 0,.int .i64 0,.slice none 0 0,.slice none 0 0] ?_;intro aa hg w1 ax hb;have ab:=am (ax);have aB:=am ((bz hg HB.out:w.heap.size≤aa));have ac:=aB;replace HB:=xb HB hb;clear hb ax hg) | ((with_reducible refine iC (N:=2) rfl ?_);refine Kd.zO k38 _ 38 ?hg (N:=2) ?hd (xs:=([(⟨0,4⟩:S38)]:List (S38))) (inner:=[.int .i64 0,.int .i64 4]) (ok:=fun _=>True) (okp:=fun _=>True) ?hr ?hp (fun _ hk=>hk) trivial (Below.refl _ _) (Nat.le_refl _) (by simp) ?_;(case hd=>rfl);(case hg=>rfl);(case hr=>first | (go_simp;done) | (go_simp;rfl));(case hp=>exact (mI.c2 (show Kd.M k38 _ _ _ (⟨0,4⟩:S38) [.int .i64 0,.int .i64 4] from (oV _ _ _ (⟨0,4⟩:S38) )) (mI.none _ _)));intro aT w2 ho3 hb ay al;clear ay al;(first | rw [← ap.out] at ho3 | (simp only [Int.reduceToNat] at ho3;rw [← ap.out] at ho3));have ae:=am (Kd.kE (Kd.ael (M:=fun k_=>(w.heap.size≤k_)) ho3 (iL (bl1 HB.out ac.out)) (fun k_ h_=>h_)) (iL (bl1 HB.out ac.out)));replace ab:=xk ab hb;replace HB:=xb1 HB ac hb;clear hb ho3;obtain ⟨aC,aD,aH⟩:=Kd.jT ae.out;subst aH) | ((with_reducible refine iC (N:=3) rfl ?_);refine Kd.aej (Kd.slice 38 k38) _ 27 ?hg (N':=3) ?hd (xs:=([ah]:List (List (S38)))) (inner:=[.slice aC ah.length aD]) (ok:=(fun k_=>(w.heap.size≤k_)∧k_≠aa)) (okp:=(fun k_=>(w.heap.size≤k_)∧k_≠aa)) ?hr ?hp (fun _ hk=>hk) ((show ∀ k_,w2.heap.size≤k_→(fun k_=>(w.heap.size≤k_)∧k_≠aa) k_ from fun k_ hk=>⟨(Nat.le_trans (iL (bl1 HB.out ac.out)) hk),Kd.nY (g:=aa) (o:=.cells #[.int .i64 0,.int .i64 0,.slice none 0 0,.slice none 0 0] 25 (0,0)) (kp ab.out) k_ hk⟩) _ (Nat.le_refl _)) (Below.refl _ _) (Nat.le_refl _) (by simp) ?_;(case hd=>rfl);(case hg=>rfl);(case hr=>first | (go_simp;done) | (go_simp;rfl));(case hp=>exact (mI.one (show Kd.FK (Kd.slice 38 k38) _ _ ah [.slice aC ah.length aD] from (Kd.qE (Kd.iG (Kd.kD (ok':=(fun k_=>(w.heap.size≤k_)∧k_≠aa)) (Kd.rG (ae.out) ab.out (by decide)) (fun k_ hk=>⟨hk.1.1,hk.2⟩))).2.1 (Kd.R_F (Kd.kD (ok':=(fun k_=>(w.heap.size≤k_)∧k_≠aa)) (Kd.rG (ae.out) ab.out (by decide)) (fun k_ hk=>⟨hk.1.1,hk.2⟩))))) (mI.none _ _)));intro aU w5 ao hb ay al;have aj:=am (Kd.kD (ok':=fun _=>True) (Kd.nG (kr ae.out) hb) (fun _ _=>trivial));clear ay al;(first | rw [← aq.out] at ao | (simp only [Int.reduceToNat] at ao;rw [← aq.out] at ao));have aE:=am (Kd.wm ao (iL (bl1 HB.out ac.out)));have aF:=xk ab hb;have aG:=xb1 HB ac hb;clear ab;clear HB;clear ae;have ae:=aj;clear aj;have au:=aE;have ab:=aF;have HB:=aG;clear aE aF aG;clear hb ao;obtain ⟨az,aA,aI⟩:=Kd.uO au.out;subst aI;obtain ⟨aJ,aK,aL,aM,aN,aO,aP,aQ⟩:=b4 ab.out))
 refine bodyPost_ret (results_cell_row rfl _ _ aa 25 #[.int .i64 7,.int .i64 1,.slice az ak.length aA,.slice none 0 0] (0,0) _ rfl (by (with_reducible repeat (first | refine gV ?_ _ | refine gQ ?_ | refine gM ?_ _));refine iT (cs:=#[.int .i64 7,.int .i64 1,.slice az ak.length aA,.slice none 0 0]) ?_ 3 _ rfl;(with_reducible repeat (first | refine gV ?_ _ | refine gQ ?_ | refine gM ?_ _));refine iT (cs:=#[.int .i64 7,.int .i64 1,.slice none 0 0,.slice none 0 0]) ?_ 2 _ rfl;(with_reducible repeat (first | refine gV ?_ _ | refine gQ ?_ | refine gM ?_ _));refine iT (cs:=#[.int .i64 7,.int .i64 0,.slice none 0 0,.slice none 0 0]) ?_ 1 _ rfl;(with_reducible repeat (first | refine gV ?_ _ | refine gQ ?_ | refine gM ?_ _));refine iT (cs:=#[.int .i64 0,.int .i64 0,.slice none 0 0,.slice none 0 0]) ?_ 0 _ rfl;(with_reducible repeat (first | refine gV ?_ _ | refine gQ ?_ | refine gM ?_ _));exact ab.out) Tryz.underlying25 rfl (by kernel_rfl)) rfl ?_
 exact ⟨_,_,rt,by (with_reducible repeat (first | apply Kd.nV | apply Kd.nW | apply Kd.oN));exact Kd.pz (Kd.pG (p:=⟨aa,3,none⟩) (Kd.pG (p:=⟨aa,2,none⟩) (Kd.pG (p:=⟨aa,1,none⟩) (Kd.pG (p:=⟨aa,0,none⟩) (Kd.pz au.out (fun k_ hk=>(⟨hk,hk.2⟩:_∧k_≠aa))) (fun _ hk=>hk.2) (.int .i64 7)) (fun _ hk=>hk.2) (.int .i64 1)) (fun _ hk=>hk.2) (.slice az ak.length aA)) (fun _ hk=>hk.2) (.slice none 0 0)) (fun _ hk=>⟨hk.1.1,(by simp [Value.ownBlock])⟩),by first | exact Kd.oz _ _ _ _ _ | exact Kd.oD _ _ _ _ _ | exact Kd.nJ _ _ _ _ _ | exact Kd.ow _ _ _ _ _ | exact Kd.nM _ _ _ _ _,bl1 HB.out ac.out⟩
def iU.l0:Nat→List Int→List Int→Int→Int→Option (Bool)
 | 0,_,_,_,_=>none
 | k+1,x0,x1,x12,x13=>if x13<x12 then (if 0≤x13 then (if x13<(x0.length:Int) then (if x13<(x1.length:Int) then (if (rd x0 x13)=(rd x1 x13) then (iU.l0 k x0 x1 x12 (wrap64 (x13+1))) else (some false)) else (none)) else (none)) else (none)) else (some true)
def iU.f (k:Nat) (l0:List Int) (l1:List Int):Option (Bool):=if (l0.length:Int)=(l1.length:Int) then (iU.l0 k l0 l1 (l0.length:Int) 0) else (some false)
theorem iU.kT:∀ k,(∀ y0 y1 y2 y3,LeO (iU.l0 k y0 y1 y2 y3) (iU.l0 (k+1) y0 y1 y2 y3))
 | 0=>fun _ _ _ _ r h=>by simp [iU.l0] at h
 | k+1=>by
  have aa:=iU.kT k
  ·intro y0 y1 y2 y3
   unfold iU.l0;exact mo (an aa trivial)
theorem iU.mono:∀ a0 a1 k,LeO (iU.f k a0 a1) (iU.f (k+1) a0 a1):=by
 intro a0 a1 k;have aa:=iU.kT k;unfold iU.f;exact mo (an aa trivial)
set_option maxHeartbeats 8000000 in
set_option maxRecDepth 100000 in
theorem iU.calls (k:Nat) (A0:Option Addr) (c0:Nat) (l0:List Int) (A1:Option Addr) (c1:Nat) (l1:List Int) (r:Bool) (w:World) (hr0:Kd.C (Kd.int .i64) w A0 l0.length l0) (hc0:l0.length≤c0) (hr1:Kd.C (Kd.int .i64) w A1 l1.length l1) (hc1:l1.length≤c1) (h:iU.f k l0 l1=some r) :
 Calls Tryz.prog 17 #[.slice A0 l0.length c0,.slice A1 l1.length c1] w fun e w'=>e=.returned (.bool r)∧iZ w w':=by
 have ap:=am hr0;have aA:=am hc0;clear hr0 hc0;have HR1:=am hr1;have aB:=am hc1;clear hr1 hc1;have H:(if (l0.length:Int)=(l1.length:Int) then (iU.l0 k l0 l1 (l0.length:Int) 0) else (some false))=some r:=h;clear h;by_cases c3:(l0.length:Int)=(l1.length:Int)
 ·rw [if_pos c3] at H
  have ai:=beq_iff_eq.mpr c3;have aj:=bne_eq_false_iff_eq.mpr c3;have ak:(l0.length==l1.length)=true:=by first | simpa using c3 | (simp at c3 ⊢;omega)
  clear c3;have H':=am H;clear H;go_enter Tryz.func17,Tryz.ntmps17;go_wp2;repeat (go_quiet (fail);try go_wp2)
  go_loopg [13] k (fun kq v13 w'=>∃ (aa:Int),v13=.int .i64 aa∧gL (iU.l0 kq l0 l1 (l0.length:Int) aa=some r)∧gL (kq≤k)∧iZ w w')
  case atStart=>exact ⟨(0),sm,H',⟨Nat.le_refl _⟩,by repeat (first | exact iZ.refl _ | apply iZ.step)⟩
  case round =>
   clear H';try clear c1
   try clear ai
   try clear aj
   try clear ak
   obtain ⟨aa,rfl,HA,aq,⟨m1,rfl⟩⟩:=hrel;cases gk with
   | zero=>exact absurd HA.out (by simp [iU.l0])
   | succ k1 =>
    have H:=HA.out;clear HA;simp only [iU.l0] at H;by_cases c4:aa<(l0.length:Int)
    ·rw [if_pos c4] at H
     have au:=decide_eq_true c4;clear c4;by_cases c5:0≤aa
     case neg=>rw [if_neg c5] at H;exact absurd H (by simp)
     rw [if_pos c5] at H;have ax:=decide_eq_true c5;clear c5;by_cases c6:aa<(l0.length:Int)
     case neg=>rw [if_neg c6] at H;exact absurd H (by simp)
     rw [if_pos c6] at H;have ay:=decide_eq_true c6;clear c6;by_cases c7:aa<(l1.length:Int)
     case neg=>rw [if_neg c7] at H;exact absurd H (by simp)
     rw [if_pos c7] at H;have az:=decide_eq_true c7;clear c7;by_cases c8:(rd l0 aa)=(rd l1 aa)
     ·rw [if_pos c8] at H
      have av:=beq_iff_eq.mpr c8;have aw:=bne_eq_false_iff_eq.mpr c8;clear c8;have H':=am H;clear H;have ab:0≤(aa:Int):=of_decide_eq_true asm;have ac:aa<(l0.length:Int):=of_decide_eq_true asm;obtain ⟨al,e251,ag⟩:=Kd.mK ap.out aa ab ac;cases e251;replace ab:=eq_true ab;replace ac:=eq_true ac;have ae:0≤(aa:Int):=of_decide_eq_true asm;have af:aa<(l1.length:Int):=of_decide_eq_true asm;obtain ⟨ao,e252,ah⟩:=Kd.mK HR1.out aa ae af;cases e252;replace ae:=eq_true ae;replace af:=eq_true af;go_wp2;repeat (go_quiet (fail);try go_wp2)
      go_roundg k1
      case measure=>have:=aq.out;omega
      case rel=>exact ⟨(wrap64 (aa+1)),sm,H',⟨by have:=aq.out;omega⟩,by repeat (first | exact iZ.refl _ | apply iZ.step)⟩
     ·rw [if_neg c8] at H
      have av:((rd l0 aa)==(rd l1 aa))=false:=beq_eq_false_iff_ne.mpr c8;have aw:((rd l0 aa) != (rd l1 aa))=true:=bne_iff_ne.mpr c8;obtain rfl:=Option.some.inj H;have ab:0≤(aa:Int):=of_decide_eq_true asm;have ac:aa<(l0.length:Int):=of_decide_eq_true asm;obtain ⟨al,e251,ag⟩:=Kd.mK ap.out aa ab ac;cases e251;replace ab:=eq_true ab;replace ac:=eq_true ac;have ae:0≤(aa:Int):=of_decide_eq_true asm;have af:aa<(l1.length:Int):=of_decide_eq_true asm;obtain ⟨ao,e252,ah⟩:=Kd.mK HR1.out aa ae af;cases e252;replace ae:=eq_true ae;replace af:=eq_true af;go_wp2;repeat (go_quiet (fail);try go_wp2)
      go_ret
      exact ⟨by first | rfl | (simp;done) | (simp [*];done),by repeat (first | exact iZ.refl _ | apply iZ.step)⟩
    ·rw [if_neg c4] at H
     have au:=decide_eq_false c4;clear c4;obtain rfl:=Option.some.inj H;go_wp2;repeat (go_quiet (fail);try go_wp2)
     go_ret
     exact ⟨by first | rfl | (simp;done) | (simp [*];done),by repeat (first | exact iZ.refl _ | apply iZ.step)⟩
 ·rw [if_neg c3] at H
  have ai:((l0.length:Int)==(l1.length:Int))=false:=beq_eq_false_iff_ne.mpr c3;have aj:((l0.length:Int) != (l1.length:Int))=true:=bne_iff_ne.mpr c3;have ak:(l0.length==l1.length)=false:=by first | simpa using c3 | (simp at c3 ⊢;omega)
  obtain rfl:=Option.some.inj H;go_enter Tryz.func17,Tryz.ntmps17;go_wp2;repeat (go_quiet (fail);try go_wp2)
  go_ret
  exact ⟨by first | rfl | (simp;done) | (simp [*];done),by repeat (first | exact iZ.refl _ | apply iZ.step)⟩
def nD.f (ab:Int) (aa:Int) (a1:Int):Option (Bool):=some (decide (aa≥a1))
set_option maxHeartbeats 8000000 in
set_option maxRecDepth 100000 in
theorem nD.calls (ab:Int) (aa:Int) (a1:Int) (r:Bool) (w:World) (h:nD.f ab aa a1=some r) :
 Calls Tryz.prog 59 #[.agg #[.int .i64 ab,.int .i64 aa],.int .i64 a1] w fun e w'=>e=.returned (.bool r)∧Below w.heap.size w w':=by
 have ao:=Tryz.underlying38;have HB:=am (Below.refl w.heap.size w);have H:(some (decide (aa≥a1)))=some r:=h;clear h;obtain rfl:=Option.some.inj H;go_enter Tryz.func59,Tryz.ntmps59;go_wp2_with (first | ((with_reducible refine iC (N:=2) rfl ?_);refine bx 2 38 #[.int .i64 ab,.int .i64 aa] ?_;intro ae hg w3 ac hb;have af:=am (ac);have ag:=am ((bz hg HB.out:w.heap.size≤ae));have ah:=ag;replace HB:=xb HB hb;clear hb ac hg;obtain ⟨ai,aj,ak,al⟩:=b2 af.out));go_ret;exact ⟨rt,bl1 HB.out ah.out⟩
def jh.f (l0:List (S38)):Option (Int × Int × Bool):=if (l0.length:Int)=0 then (some (0,0,false)) else (if 0<(l0.length:Int) then (if 0≤(wrap64 ((l0.length:Int) - 1)) then (if (wrap64 ((l0.length:Int) - 1))<(l0.length:Int) then (some ((gN l0 0).f0,(gN l0 (wrap64 ((l0.length:Int) - 1))).f1,true)) else (none)) else (none)) else (none))
def jh.T3:Bool × List (List Nat × List Nat):=(true,[([],[]),([0],[0]),([1],[1]),([2],[2]),([],[]),([],[]),([5],[5]),([6],[6]),([4,7],[4,7]),([8],[8]),([9],[9]),([3,10],[3,10]),([11,0,1,2,3,4,5,6,7,8,9,10,11],[11]),([12,0,1,2,3,4,5,6,7,8,9,10,11,12],[])])
def jh.B3:List Nat:=[0,1,3,7,0,0,32,96,240,496,1008,2047,4095,8191]
theorem jh.afv:qc .any (opsOf Tryz.f15 3)=jh.T3:=by kernel_rfl
theorem jh.ae1:l8 jh.T3.2 jh.B3=true:=by kernel_rfl
set_option maxHeartbeats 8000000 in
set_option maxRecDepth 100000 in
theorem jh.calls (A0:Option Addr) (c0:Nat) (l0:List (S38)) (r1:Int) (r2:Int) (r3:Bool) (w:World) (hr0:Kd.C k38 w A0 l0.length l0) (hc0:l0.length≤c0) (h:jh.f l0=some (r1,r2,r3)) :
 Calls Tryz.prog 15 #[.slice A0 l0.length c0] w fun e w'=>e=.returned (.tuple #[.agg #[.int .i64 r1,.int .i64 r2],.bool r3])∧Below w.heap.size w w':=by
 have aP:=Tryz.underlying38;have aC:=am hr0;have aX:=am hc0;clear hr0 hc0;have HB:=am (Below.refl w.heap.size w);have H:(if (l0.length:Int)=0 then (some (0,0,false)) else (if 0<(l0.length:Int) then (if 0≤(wrap64 ((l0.length:Int) - 1)) then (if (wrap64 ((l0.length:Int) - 1))<(l0.length:Int) then (some ((gN l0 0).f0,(gN l0 (wrap64 ((l0.length:Int) - 1))).f1,true)) else (none)) else (none)) else (none)))=some (r1,r2,r3):=h;clear h;by_cases c2:(l0.length:Int)=0
 ·rw [if_pos c2] at H
  have aF:=beq_iff_eq.mpr c2;have aG:=bne_eq_false_iff_eq.mpr c2;clear c2;simp only [Option.some.injEq,Prod.mk.injEq] at H;obtain ⟨rfl,rfl,rfl⟩:=H;go_enter Tryz.func15,Tryz.ntmps15;go_wp2_with (first | ((with_reducible refine iC (N:=2) rfl ?_);refine bx 2 38 #[.int .i64 0,.int .i64 0] ?_;intro ae hg w3 au hb;have ah:=am (au);have aa:=am ((bz hg HB.out:w.heap.size≤ae));have av:=aa;replace HB:=xb HB hb;clear hb au hg;obtain ⟨aH,aI,aJ,aK⟩:=b2 ah.out));refine bodyPost_ret (vI rfl _ _ ae 38 #[.int .i64 0,.int .i64 0] (0,0) _ rfl (by (with_reducible repeat (first | refine gV ?_ _ | refine gQ ?_ | refine gM ?_ _));refine iT (cs:=#[.int .i64 0,.int .i64 0]) ?_ 1 _ rfl;(with_reducible repeat (first | refine gV ?_ _ | refine gQ ?_ | refine gM ?_ _));refine iT (cs:=#[.int .i64 0,.int .i64 0]) ?_ 0 _ rfl;(with_reducible repeat (first | refine gV ?_ _ | refine gQ ?_ | refine gM ?_ _));exact ah.out) Tryz.underlying38 rfl (by kernel_rfl)) rfl ?_;exact ⟨rt,bl1 HB.out av.out⟩
 ·rw [if_neg c2] at H
  have aF:((l0.length:Int)==0)=false:=beq_eq_false_iff_ne.mpr c2;have aG:((l0.length:Int) != 0)=true:=bne_iff_ne.mpr c2;have aQ:¬ (l0=[]):=fun h_=>c2 (by rw [h_];rfl);by_cases c5:0<(l0.length:Int)
  case neg=>rw [if_neg c5] at H;exact absurd H (by simp)
  rw [if_pos c5] at H;have aR:=decide_eq_true c5;have aS:decide (0<l0.length)=true:=decide_eq_true (by omega);clear c5;obtain ⟨ak,aw⟩:∃ j_:Int,(wrap64 ((l0.length:Int) - 1))=j_:=⟨_,rfl⟩;replace H:(if 0≤(ak) then (if (ak)<(l0.length:Int) then (some ((gN l0 0).f0,(gN l0 (ak)).f1,true)) else (none)) else (none))=some (r1,r2,r3):=by first | (rw [aw] at H;exact H) | (simp only [aw] at H ⊢;exact H)
  have aL:(IntKind.i64.wrap ((l0.length:Int) - 1))=ak:=(nA _).trans aw;by_cases c7:0≤(ak)
  case neg=>rw [if_neg c7] at H;exact absurd H (by simp)
  rw [if_pos c7] at H;have aT:=decide_eq_true c7;clear c7;by_cases c8:(ak)<(l0.length:Int)
  case neg=>rw [if_neg c8] at H;exact absurd H (by simp)
  rw [if_pos c8] at H;have aU:=decide_eq_true c8;clear c8;simp only [Option.some.injEq,Prod.mk.injEq] at H;obtain ⟨rfl,rfl,rfl⟩:=H;go_enter Tryz.func15,Tryz.ntmps15;try go_wp2_with (first | ((with_reducible refine iC (N:=2) rfl ?_);refine bx 2 38 #[.int .i64 0,.int .i64 0] ?_;intro ae hg w9 au hb;have ah:=am (au);have aa:=am ((bz hg HB.out:w.heap.size≤ae));have av:=aa;replace HB:=xb HB hb;clear hb au hg))
  replace ah:=am (gQ ah.out);replace HB:=am (iQ HB.out);have ax:0≤(0:Int):=(by omega);have ay:0<(l0.length:Int):=of_decide_eq_true asm;obtain ⟨ao,e241,ai,aj⟩:=j5 aC.out 0 ax ay;have ab:=aj;(try rw [show ((0:Int)).toNat=0 from rfl] at ab);(try rw [show 0*2=0 from rfl] at ab);(try rw [Addr.add_zero'] at ab);have ac:=ai;(try rw [show ((0:Int)).toNat=0 from rfl] at ac);(try rw [show 0*2=0 from rfl] at ac);(try rw [Addr.add_zero'] at ac);cases e241;have aM:(0<l0.length)=True:=eq_true (by omega);(try rw [show ((0:Int)).toNat=0 from rfl] at ai);(try rw [show 0*2=0 from rfl] at ai);(try rw [Addr.add_zero'] at ai);(try rw [show ((0:Int)).toNat=0 from rfl] at aj);(try rw [show 0*2=0 from rfl] at aj);(try rw [Addr.add_zero'] at aj);replace ai:=xc HB ai;replace aj:=xc HB aj;replace ax:=eq_true ax;replace ay:=eq_true ay;have az:0≤((ak):Int):=of_decide_eq_true asm;have aA:(ak)<(l0.length:Int):=of_decide_eq_true asm;obtain ⟨aB,e242,ap,aq⟩:=j5 aC.out (ak) az aA;have af:=aq;have ag:=ap;obtain rfl:ao=aB:=(by injection e242);replace ap:=xc HB ap;replace aq:=xc HB aq;replace az:=eq_true az;replace aA:=eq_true aA
  refine lu (n:=14) (S:=fun w'=>w'.cell? ao=some (.int .i64 ((gN l0 0).f0))∧w'.cell? ⟨ao.block,ao.off+1,none⟩=some (.int .i64 ((gN l0 0).f1))∧w'.cell? (ao.add (((ak)).toNat*2))=some (.int .i64 ((gN l0 (ak)).f0))∧w'.cell? ⟨(ao.add (((ak)).toNat*2)).block,(ao.add (((ak)).toNat*2)).off+1,none⟩=some (.int .i64 ((gN l0 (ak)).f1))) (ds:=[]) (rs false [14]) (by kernel_rfl) rfl rfl ⟨((HB.out.cell (World.block_lt_of_cell? w _ ac)).trans ac),((HB.out.cell (World.block_lt_of_cell? w _ ab)).trans ab),((HB.out.cell (World.block_lt_of_cell? w _ ag)).trans ag),((HB.out.cell (World.block_lt_of_cell? w _ af)).trans af)⟩ (fun hHeld => ?_);refine jK jh.afv jh.ae1 (fun al aD => ?_);generalize w9.drew=aE at ah HB ai aj ap aq hHeld ⊢;refine px 0 8 (rs true [1,13]) al.out ?_;refine px 1 9 (rs true [2,12]) al.out ?_;refine px 2 10 (rs true [3,11]) al.out ?_;refine px 4 12 (rs true [3,1,1,9]) al.out ?_;refine px 5 13 (rs true [3,1,2,8]) al.out ?_;refine px 6 14 (rs true [3,1,3,7]) al.out ?_;refine px 7 15 (rs true [3,1,4,6]) al.out ?_;refine px 8 16 (rs true [3,1,5,5]) al.out ?_;refine px 9 17 (rs true [3,1,6,4]) al.out ?_;refine tx 3 11 (rs true [10,4]) al.out aD.out hHeld ?_;refine tx 10 18 (rs true [11,3]) al.out aD.out hHeld ?_;refine px 11 19 (rs true [12,2]) al.out ?_;refine ny (i:=12) (N:=none) (rs true [13,1]) rfl rfl (jM al.out (by kernel_rfl)) (by decide) (fun K hK => ?_);have aV:aE.cell? ⟨ae,0,none⟩=some (.int .i64 0):=bc ah.out 0;have aN:=kQ ah.out 0
  have aW:aE.cell? ⟨ae,1,none⟩=some (.int .i64 0):=bc ah.out 1;have aO:=kQ ah.out 1;refine abQ (w1 := ?_) (by rfl) rfl ?_ ?_;rotate_left
  ·go_simp
   rfl
  refine hK.out _ _ ⟨((cell_far (p:=⟨ae,_,none⟩) (by first | exact Nat.ne_of_lt (Nat.lt_of_lt_of_le (by have:=World.block_lt_of_cell? _ _ ac;first | rwa [add_block] at this | exact this) aa.out) | (rw [add_block];exact Nat.ne_of_lt (Nat.lt_of_lt_of_le (by have:=World.block_lt_of_cell? _ _ ac;first | rwa [add_block] at this | exact this) aa.out)) | (show (Addr.add _ _).block≠_;rw [add_block];exact Nat.ne_of_lt (Nat.lt_of_lt_of_le (by have:=World.block_lt_of_cell? _ _ ac;first | rwa [add_block] at this | exact this) aa.out)) | (dsimp only;exact Nat.ne_of_lt (Nat.lt_of_lt_of_le (by have:=World.block_lt_of_cell? _ _ ac;first | rwa [add_block] at this | exact this) aa.out))) _).trans (((cell_far (p:=⟨ae,_,none⟩) (by first | exact Nat.ne_of_lt (Nat.lt_of_lt_of_le (by have:=World.block_lt_of_cell? _ _ ac;first | rwa [add_block] at this | exact this) aa.out) | (rw [add_block];exact Nat.ne_of_lt (Nat.lt_of_lt_of_le (by have:=World.block_lt_of_cell? _ _ ac;first | rwa [add_block] at this | exact this) aa.out)) | (show (Addr.add _ _).block≠_;rw [add_block];exact Nat.ne_of_lt (Nat.lt_of_lt_of_le (by have:=World.block_lt_of_cell? _ _ ac;first | rwa [add_block] at this | exact this) aa.out)) | (dsimp only;exact Nat.ne_of_lt (Nat.lt_of_lt_of_le (by have:=World.block_lt_of_cell? _ _ ac;first | rwa [add_block] at this | exact this) aa.out))) _).trans (hHeld.1)))),((cell_far (p:=⟨ae,_,none⟩) (by first | exact Nat.ne_of_lt (Nat.lt_of_lt_of_le (by have:=World.block_lt_of_cell? _ _ ab;first | rwa [add_block] at this | exact this) aa.out) | (rw [add_block];exact Nat.ne_of_lt (Nat.lt_of_lt_of_le (by have:=World.block_lt_of_cell? _ _ ab;first | rwa [add_block] at this | exact this) aa.out)) | (show (Addr.add _ _).block≠_;rw [add_block];exact Nat.ne_of_lt (Nat.lt_of_lt_of_le (by have:=World.block_lt_of_cell? _ _ ab;first | rwa [add_block] at this | exact this) aa.out)) | (dsimp only;exact Nat.ne_of_lt (Nat.lt_of_lt_of_le (by have:=World.block_lt_of_cell? _ _ ab;first | rwa [add_block] at this | exact this) aa.out))) _).trans (((cell_far (p:=⟨ae,_,none⟩) (by first | exact Nat.ne_of_lt (Nat.lt_of_lt_of_le (by have:=World.block_lt_of_cell? _ _ ab;first | rwa [add_block] at this | exact this) aa.out) | (rw [add_block];exact Nat.ne_of_lt (Nat.lt_of_lt_of_le (by have:=World.block_lt_of_cell? _ _ ab;first | rwa [add_block] at this | exact this) aa.out)) | (show (Addr.add _ _).block≠_;rw [add_block];exact Nat.ne_of_lt (Nat.lt_of_lt_of_le (by have:=World.block_lt_of_cell? _ _ ab;first | rwa [add_block] at this | exact this) aa.out)) | (dsimp only;exact Nat.ne_of_lt (Nat.lt_of_lt_of_le (by have:=World.block_lt_of_cell? _ _ ab;first | rwa [add_block] at this | exact this) aa.out))) _).trans (hHeld.2.1)))),((cell_far (p:=⟨ae,_,none⟩) (by first | exact Nat.ne_of_lt (Nat.lt_of_lt_of_le (by have:=World.block_lt_of_cell? _ _ ag;first | rwa [add_block] at this | exact this) aa.out) | (rw [add_block];exact Nat.ne_of_lt (Nat.lt_of_lt_of_le (by have:=World.block_lt_of_cell? _ _ ag;first | rwa [add_block] at this | exact this) aa.out)) | (show (Addr.add _ _).block≠_;rw [add_block];exact Nat.ne_of_lt (Nat.lt_of_lt_of_le (by have:=World.block_lt_of_cell? _ _ ag;first | rwa [add_block] at this | exact this) aa.out)) | (dsimp only;exact Nat.ne_of_lt (Nat.lt_of_lt_of_le (by have:=World.block_lt_of_cell? _ _ ag;first | rwa [add_block] at this | exact this) aa.out))) _).trans (((cell_far (p:=⟨ae,_,none⟩) (by first | exact Nat.ne_of_lt (Nat.lt_of_lt_of_le (by have:=World.block_lt_of_cell? _ _ ag;first | rwa [add_block] at this | exact this) aa.out) | (rw [add_block];exact Nat.ne_of_lt (Nat.lt_of_lt_of_le (by have:=World.block_lt_of_cell? _ _ ag;first | rwa [add_block] at this | exact this) aa.out)) | (show (Addr.add _ _).block≠_;rw [add_block];exact Nat.ne_of_lt (Nat.lt_of_lt_of_le (by have:=World.block_lt_of_cell? _ _ ag;first | rwa [add_block] at this | exact this) aa.out)) | (dsimp only;exact Nat.ne_of_lt (Nat.lt_of_lt_of_le (by have:=World.block_lt_of_cell? _ _ ag;first | rwa [add_block] at this | exact this) aa.out))) _).trans (hHeld.2.2.1)))),((cell_far (p:=⟨ae,_,none⟩) (by first | exact Nat.ne_of_lt (Nat.lt_of_lt_of_le (by have:=World.block_lt_of_cell? _ _ af;first | rwa [add_block] at this | exact this) aa.out) | (rw [add_block];exact Nat.ne_of_lt (Nat.lt_of_lt_of_le (by have:=World.block_lt_of_cell? _ _ af;first | rwa [add_block] at this | exact this) aa.out)) | (show (Addr.add _ _).block≠_;rw [add_block];exact Nat.ne_of_lt (Nat.lt_of_lt_of_le (by have:=World.block_lt_of_cell? _ _ af;first | rwa [add_block] at this | exact this) aa.out)) | (dsimp only;exact Nat.ne_of_lt (Nat.lt_of_lt_of_le (by have:=World.block_lt_of_cell? _ _ af;first | rwa [add_block] at this | exact this) aa.out))) _).trans (((cell_far (p:=⟨ae,_,none⟩) (by first | exact Nat.ne_of_lt (Nat.lt_of_lt_of_le (by have:=World.block_lt_of_cell? _ _ af;first | rwa [add_block] at this | exact this) aa.out) | (rw [add_block];exact Nat.ne_of_lt (Nat.lt_of_lt_of_le (by have:=World.block_lt_of_cell? _ _ af;first | rwa [add_block] at this | exact this) aa.out)) | (show (Addr.add _ _).block≠_;rw [add_block];exact Nat.ne_of_lt (Nat.lt_of_lt_of_le (by have:=World.block_lt_of_cell? _ _ af;first | rwa [add_block] at this | exact this) aa.out)) | (dsimp only;exact Nat.ne_of_lt (Nat.lt_of_lt_of_le (by have:=World.block_lt_of_cell? _ _ af;first | rwa [add_block] at this | exact this) aa.out))) _).trans (hHeld.2.2.2))))⟩ (fun hHeld => ?_)
  clear hK K;refine px 13 3 (rs true [14]) al.out ?_;refine mU (kI al.out (by kernel_rfl)) ?_;try go_wp2
  refine bodyPost_ret (vI rfl _ _ ae 38 #[.int .i64 ((gN l0 0).f0),.int .i64 ((gN l0 (ak)).f1)] (0,0) _ rfl (by (with_reducible repeat (first | refine gV ?_ _ | refine gQ ?_ | refine gM ?_ _));refine iT (cs:=#[.int .i64 ((gN l0 0).f0),.int .i64 0]) ?_ 1 _ rfl;(with_reducible repeat (first | refine gV ?_ _ | refine gQ ?_ | refine gM ?_ _));refine iT (cs:=#[.int .i64 0,.int .i64 0]) ?_ 0 _ rfl;(with_reducible repeat (first | refine gV ?_ _ | refine gQ ?_ | refine gM ?_ _));exact ah.out) Tryz.underlying38 rfl (by kernel_rfl)) rfl ?_;exact ⟨by first | rfl | (simp [jV,jW] <;> rfl) | (simp only [← aw];first | rfl | (simp [jV,jW] <;> rfl)) | (simp [*,jV,jW] <;> rfl),bl1 HB.out av.out⟩
end Go.Proofs.YtmbmalkpmanaaaaGreat.P
namespace Go.Proofs.YtmbmalkpmanaaaaGreat.P
set_option linter.unusedVariables false
set_option linter.unusedSimpArgs false
open Go.RowKit Go.Proofs.YtmbmalkpmanaaaaGreatW.iD Go.Proofs.YtmbmalkpmanaaaaGreatW.jA
theorem vN {P:Program} {ops:Array Oper} {Q:Exit→Act→World→Prop} {oi:Oper} {N:Option Tmp} {a:Act} {w:World} {K:Act→World→Prop} {f:FuncId} {fn:Func} {c:Tmp} {os:Array Operand} {ts:Array TypeId} (hf:P.funcs[f]? = some fn) (hname:(fn.name == "runtime.NumGoroutine")=false) (hb:fn.body.isSome=true) (args:Array Value)
    (hw:Region.wanted oi (yielded ops a.tmps)=true) (hN:oi.dst=N) (hop:oi.op=.call { callee:=.value (.tmp c),args:=os,argTypes:=ts }) (hc:a.eval (.tmp c)=.func (.func f) #[] #[]) (hargs:os.map a.eval=args)
    (h:Calls P f args w fun e w'=>∃ v,e=.returned v∧K (a.put N v) w'):if Region.wanted oi (yielded ops a.tmps)=true then Oper.wp P oi a w K Q else K (a.put N undef) w:=by
  refine call_ f args hw hN ?_ h;have he:=vU hf hname hb args w;unfold execOp;simp [hop,resolve,Deferred.ofValue,invoke,hc,hargs,he]
theorem vO {P:Program} {ops:Array Oper} {Q:Exit→Act→World→Prop} {oi:Oper} {N:Option Tmp} {a:Act} {w:World} {K:Act→World→Prop} {f:FuncId} {fn:Func} {c:Tmp} {os:Array Operand} {ts:Array TypeId} (hf:P.funcs[f]? = some fn) (hname:(fn.name == "runtime.NumGoroutine")=false) (hb:fn.body.isSome=true) (aa cap args:Array Value) (ab:aa++cap=args)
    (hw:Region.wanted oi (yielded ops a.tmps)=true) (hN:oi.dst=N) (hop:oi.op=.call { callee:=.value (.tmp c),args:=os,argTypes:=ts }) (hc:a.eval (.tmp c)=.func (.func f) #[] cap) (hargs:os.map a.eval=aa)
    (h:Calls P f args w fun e w'=>∃ v,e=.returned v∧K (a.put N v) w'):if Region.wanted oi (yielded ops a.tmps)=true then Oper.wp P oi a w K Q else K (a.put N undef) w:=by
  subst ab;refine call_ f (aa++cap) hw hN ?_ h;have he:=vU hf hname hb (aa++cap) w;unfold execOp;simp [hop,resolve,Deferred.ofValue,invoke,hc,hargs,he]
end Go.Proofs.YtmbmalkpmanaaaaGreat.P
namespace Go.Proofs.YtmbmalkpmanaaaaGreat.P
set_option linter.unusedVariables false
set_option linter.unusedSimpArgs false
open Go.RowKit Go.Maps Go.Proofs.YtmbmalkpmanaaaaGreatW.iD Go.Proofs.YtmbmalkpmanaaaaGreatW.jA
def qp:List Int→Int→Int
  | [],_=>0
  | y :: r,x=>(if y=x then 1 else 0)+qp r x
theorem yI (l:List Int) (x:Int):0≤qp l x∧qp l x≤l.length:=by
  induction l with
  | nil=>simp [qp]
  | cons y r ih=>simp only [qp,List.length_cons];split <;> omega
theorem xM (l:List Int) (y x:Int):qp (l++[y]) x=qp l x+if y=x then 1 else 0:=by
  induction l with
  | nil=>simp [qp]
  | cons z r ih=>simp only [List.cons_append,qp,ih];omega
theorem aaY (l:List Int) (x:Int):qp l x=0↔x ∉ l:=by
  induction l with
  | nil=>simp [qp]
  | cons y r ih =>
    have:=(yI r x).1;simp only [qp,List.mem_cons,not_or];by_cases h:y=x
    · rw [if_pos h];constructor
      · intro e;omega
      · intro e;exact absurd h.symm e.1
    · rw [if_neg h,Int.zero_add,ih]
      exact ⟨fun e=>⟨fun e2=>h e2.symm,e⟩,fun e=>e.2⟩
def qw (w:World) (b:Nat) (l:List Int):Prop :=
  ∃ D:DataW Unit,w.ownsMap Tryz.prog 3 (plainElem Tryz.prog 3) b l.length D∧IsMap D∧∀ x:Int,D.atKey (.int .i64 x) (.lit (.int .i64 0))=.lit (.int .i64 (qp l x))
theorem qw.made (w:World):qw (w.alloc (.map #[] 0)) w.heap.size [] :=
  ⟨.map [],World.ownsMap_made _ _ _ _,⟨[],rfl⟩,fun x=>rfl⟩
theorem qw.heap {w w':World} {b:Nat} {l:List Int} (h:qw w b l) (e:w'.heap[b]? = w.heap[b]?):qw w' b l:=by
  obtain ⟨D,⟨es,clock,hb,F,hs,hD⟩,h2,h3⟩:=h;exact ⟨D,⟨es,clock,e.trans hb,F,hs,hD⟩,h2,h3⟩
theorem qw.lt {w:World} {b:Nat} {l:List Int} (h:qw w b l):b<w.heap.size:=by
  obtain ⟨D,h1,_⟩:=h;exact h1.lt
theorem aeO:Keyed Tryz.prog 3:=int_keyed Tryz.underlying3
theorem aeo (w:World):(zeroValue 3).run Tryz.prog w=.ok (.int .i64 0) w:=by kernel_rfl
theorem qw.lookup {w:World} {ops:Array Oper} {rest:List Oper} {o:Oper} {a:Act} {Q:Exit→Act→World→Prop} {b:Nat} {l:List Int} (aa:qw w b l)
    (hg:o.guard=none) (m x:Operand) (hop:o.op=Op.lookup 96 m x false) (hm:a.eval m=.map (some b)) (y:Int) (hy:(Lit.int .i64 y).wf=true) (hx:a.eval x=.int .i64 y)
    (hK:wpList Tryz.prog ops Q rest (a.put o.dst (.int .i64 (qp l y))) w):wpList Tryz.prog ops Q (o :: rest) a w:=by
  obtain ⟨D,h1,h2,h3⟩:=aa;refine wpList_lookup_own_int w hg m x 96 hop 3 3 .i64 aeO Tryz.underlying96 Tryz.underlying3 (aeo w) b l.length D hm h1 _ _ hx (keyOf_int_mk Tryz.underlying3 hy) (fun c hc _ => ?_);have e:qp l y=c:=by have:=(h3 y).symm.trans hc;injection this with this;injection this
  rw [← e];exact hK
theorem qw.update {w:World} {ops:Array Oper} {rest:List Oper} {o:Oper} {a:Act} {Q:Exit→Act→World→Prop} {b:Nat} {l:List Int} (aa:qw w b l)
    (hg:o.guard=none) (m x v:Operand) (hop:o.op=Op.mapUpdate 96 m x v) (hm:a.eval m=.map (some b)) (hl:l.length<maxLen) (y:Int) (hy:(Lit.int .i64 y).wf=true) (hx:a.eval x=.int .i64 y) (hv:a.eval v=.int .i64 (wrap64 (qp l y+1)))
    (hK:∀ w',qw w' b (l++[y])→w.grownBy w' (some b)→wpList Tryz.prog ops Q rest (a.put o.dst undef) w'):wpList Tryz.prog ops Q (o :: rest) a w:=by
  obtain ⟨D,h1,h2,h3⟩:=aa;refine wpList_mapUpdate_own w hg m x v 96 hop 3 3 aeO Tryz.underlying96 _ b l.length D hm h1 hl _ _ _ hx hv (keyOf_int_mk Tryz.underlying3 hy) _ _ (plainElem_int Tryz.underlying3 (wrap64_wf _)) (fun w' r1 r2=>hK w' ?_ r2);refine ⟨D.put (.int .i64 y) (.lit (.int .i64 (wrap64 (qp l y+1)))),?_,?_,fun z => ?_⟩
  · exact r1.mono (by simp)
  · obtain ⟨es,rfl⟩:=h2;exact ⟨_,rfl⟩
  · have hw:wrap64 (qp l y+1)=qp l y+1:=by have:=yI l y;unfold wrap64;unfold maxLen at hl;omega
    rw [xM];by_cases e:y=z
    · subst e;rw [atKey_put_same h2 (by trivial),hw,if_pos rfl]
    · rw [atKey_put_other (by intro h;injection h with _ h;exact e h.symm),h3,if_neg e,Int.add_zero]
end Go.Proofs.YtmbmalkpmanaaaaGreat.P
namespace Go.Proofs.YtmbmalkpmanaaaaGreat.P
open Go.RowKit Go.Proofs.YtmbmalkpmanaaaaGreatW.iD Go.Proofs.YtmbmalkpmanaaaaGreatW.jA Go.Proofs.YtmbmalkpmanaaaaGreatW.jw
attribute [local go_sem] lS lT mG mH kU kV lU lV   -- for this text's walks alone
set_option linter.unusedVariables false
set_option linter.unusedSimpArgs false
def jD.j0:Nat→Int→Int→Bool→Option (Int × Int × Int)
 | 0,_,_,_=>none
 | k+1,x0,x1,x12=>if x12=true then (some (0,0,10)) else (if x1=0 then (none) else (if (Int.tmod x0 x1)=0 then (some (wrap64 (Int.tdiv x0 x1),Int.tmod x0 x1,0)) else (if ((decide ((Int.tmod x0 x1)<0)) != (decide (x1<0)))=true then (some (wrap64 ((wrap64 (Int.tdiv x0 x1)) - 1),wrap64 ((Int.tmod x0 x1)+x1),0)) else (some (wrap64 (Int.tdiv x0 x1),Int.tmod x0 x1,0)))))
def jD.f (k:Nat) (a0:Int) (a1:Int):Option (Int × Int × Int):=if a1=0 then (some (0,0,11)) else (if a1=(-1) then (jD.j0 k a0 a1 (a0==(-9223372036854775808))) else (jD.j0 k a0 a1 false))
theorem jD.kT:∀ k,(∀ y0 y1 y2,LeO (jD.j0 k y0 y1 y2) (jD.j0 (k+1) y0 y1 y2))
 | 0=>fun _ _ _ r h=>by simp [jD.j0] at h
 | k+1=>by
  have aa:=jD.kT k
  ·intro y0 y1 y2
   unfold jD.j0;exact mo (an aa trivial)
theorem jD.mono:∀ a0 a1 k,LeO (jD.f k a0 a1) (jD.f (k+1) a0 a1):=by
 intro a0 a1 k;have aa:=jD.kT k;unfold jD.f;exact mo (an aa trivial)
set_option maxHeartbeats 8000000 in
set_option maxRecDepth 100000 in
theorem jD.calls (k:Nat) (a0:Int) (a1:Int) (r1:Int) (r2:Int) (r3:Int) (w:World) (h:jD.f k a0 a1=some (r1,r2,r3)) :
 Calls Tryz.prog 58 #[.int .i64 a0,.int .i64 a1] w fun e w'=>e=.returned (.tuple #[.int .i64 r1,.int .i64 r2,.int .i64 r3])∧iZ w w':=by
 have H:(if a1=0 then (some (0,0,11)) else (if a1=(-1) then (jD.j0 k a0 a1 (a0==(-9223372036854775808))) else (jD.j0 k a0 a1 false)))=some (r1,r2,r3):=h;clear h;by_cases c3:a1=0
 ·rw [if_pos c3] at H
  have ac:=beq_iff_eq.mpr c3;have ae:=bne_eq_false_iff_eq.mpr c3;clear c3;simp only [Option.some.injEq,Prod.mk.injEq] at H;obtain ⟨rfl,rfl,rfl⟩:=H;go_enter Tryz.func58,Tryz.ntmps58;go_wp2;repeat (go_quiet (fail);try go_wp2)
  go_ret3
  exact ⟨by first | rfl | (simp;done) | (simp [*];done),by repeat (first | exact iZ.refl _ | apply iZ.step)⟩
 ·rw [if_neg c3] at H
  have ac:(a1==0)=false:=beq_eq_false_iff_ne.mpr c3;have ae:(a1 != 0)=true:=bne_iff_ne.mpr c3;have af:=am H;clear H;go_enter Tryz.func58,Tryz.ntmps58;go_upto_region 3 with (fail)
  repeat (go_quiet (fail);go_upto_region 3 with (fail))
  go_cut [12] (fun v12 wc=>∃ (kq:Nat) (aa:Bool),v12=.bool aa∧gL (jD.j0 kq a0 a1 aa=some (r1,r2,r3))∧gL (kq≤k)∧iZ w wc)
  case first =>
   have H:=af.out;clear af;by_cases c5:a1=(-1)
   ·rw [if_pos c5] at H
    have ab:=beq_iff_eq.mpr c5;have ag:=bne_eq_false_iff_eq.mpr c5;clear c5;(first | rw [ab] | (simp only [nA,pF];rw [ab]) | skip);have H':=am H;clear H;go_wp2;repeat (go_quiet (fail);try go_wp2)
    go_meet
    case rel=>exact ⟨_,((a0==(-9223372036854775808))),sm,H',⟨by first | omega | exact Nat.le_refl _⟩,by repeat (first | exact iZ.refl _ | apply iZ.step)⟩
   ·rw [if_neg c5] at H
    have ab:(a1==(-1))=false:=beq_eq_false_iff_ne.mpr c5;have ag:(a1 != (-1))=true:=bne_iff_ne.mpr c5;(first | rw [ab] | (simp only [nA,pF];rw [ab]) | skip);have H':=am H;clear H;go_wp2;repeat (go_quiet (fail);try go_wp2)
    go_meet
    case rel=>exact ⟨_,(false),sm,H',⟨by first | omega | exact Nat.le_refl _⟩,by repeat (first | exact iZ.refl _ | apply iZ.step)⟩
  case rest =>
   clear af;try clear c3
   try clear ac
   try clear ae
   obtain ⟨kq,aa,rfl,HA,HJ3,⟨au,rfl⟩⟩:=hcut;cases kq with
   | zero=>exact absurd HA.out (by simp [jD.j0])
   | succ kj3 =>
    have H:=HA.out;clear HA;simp only [jD.j0] at H;by_cases c6:aa=true
    ·subst c6
     have H1:(some (0,0,10))=some (r1,r2,r3):=by rw [if_pos rfl] at H;exact H
     clear H;have H:=H1;clear H1;simp only [Option.some.injEq,Prod.mk.injEq] at H;obtain ⟨rfl,rfl,rfl⟩:=H;go_wp2;repeat (go_quiet (fail);try go_wp2)
     go_ret3
     exact ⟨by first | rfl | (simp;done) | (simp [*];done),by repeat (first | exact iZ.refl _ | apply iZ.step)⟩
    ·replace c6:=Bool.eq_false_iff.mpr c6
     subst c6;have H1:(if a1=0 then (none) else (if (Int.tmod a0 a1)=0 then (some (wrap64 (Int.tdiv a0 a1),Int.tmod a0 a1,0)) else (if ((decide ((Int.tmod a0 a1)<0)) != (decide (a1<0)))=true then (some (wrap64 ((wrap64 (Int.tdiv a0 a1)) - 1),wrap64 ((Int.tmod a0 a1)+a1),0)) else (some (wrap64 (Int.tdiv a0 a1),Int.tmod a0 a1,0)))))=some (r1,r2,r3):=by rw [if_neg (show ¬ (false=true) by decide)] at H;exact H
     clear H;have H:=H1;clear H1;by_cases c7:a1=0
     ·rw [if_pos c7] at H
      exact absurd H (by simp)
     ·rw [if_neg c7] at H
      have ao:(a1==0)=false:=beq_eq_false_iff_ne.mpr c7;have ap:(a1 != 0)=true:=bne_iff_ne.mpr c7;by_cases c8:(Int.tmod a0 a1)=0
      ·rw [if_pos c8] at H
       have ah:=beq_iff_eq.mpr c8;have ai:=bne_eq_false_iff_eq.mpr c8;clear c8;simp only [Option.some.injEq,Prod.mk.injEq] at H;obtain ⟨rfl,rfl,rfl⟩:=H;go_wp2;repeat (go_quiet (fail);try go_wp2)
       go_ret3
       exact ⟨by first | rfl | (simp;done) | (simp [*];done),by repeat (first | exact iZ.refl _ | apply iZ.step)⟩
      ·rw [if_neg c8] at H
       have ah:((Int.tmod a0 a1)==0)=false:=beq_eq_false_iff_ne.mpr c8;have ai:((Int.tmod a0 a1) != 0)=true:=bne_iff_ne.mpr c8;by_cases c9:((decide ((Int.tmod a0 a1)<0)) != (decide (a1<0)))=true
       ·rw [if_pos c9] at H
        have aj:((decide ((Int.tmod a0 a1)<0)) != (decide (a1<0)))=true:=c9;(try (have ak:decide ((decide ((Int.tmod a0 a1)<0))=(decide (a1<0)))=false:=by simpa using c9));(try (have al:((decide ((Int.tmod a0 a1)<0))==(decide (a1<0)))=false:=by simpa using c9));(try (have aq:¬ ((decide ((Int.tmod a0 a1)<0))=(decide (a1<0))):=by simpa using c9));clear c9;simp only [Option.some.injEq,Prod.mk.injEq] at H;obtain ⟨rfl,rfl,rfl⟩:=H;go_wp2;repeat (go_quiet (fail);try go_wp2)
        go_ret3
        exact ⟨by first | rfl | (simp;done) | (simp [*];done),by repeat (first | exact iZ.refl _ | apply iZ.step)⟩
       ·rw [if_neg c9] at H
        have aj:((decide ((Int.tmod a0 a1)<0)) != (decide (a1<0)))=false:=by simpa using c9
        (try (have ak:decide ((decide ((Int.tmod a0 a1)<0))=(decide (a1<0)))=true:=by simpa using c9))
        (try (have al:((decide ((Int.tmod a0 a1)<0))==(decide (a1<0)))=true:=by simpa using c9))
        clear c9;simp only [Option.some.injEq,Prod.mk.injEq] at H;obtain ⟨rfl,rfl,rfl⟩:=H;go_wp2;repeat (go_quiet (fail);try go_wp2)
        go_ret3
        exact ⟨by first | rfl | (simp;done) | (simp [*];done),by repeat (first | exact iZ.refl _ | apply iZ.step)⟩
def mD.f (k:Nat) (ac:Int) (ab:Int) (a1:Int) (a2:Int):Option (Int):=(jD.f k (wrap64 (ab - a1)) a2).bind fun aa=>(some (wrap64 (-aa.1)))
theorem mD.mono:∀ a0 a1 a2 a3 k,LeO (mD.f k a0 a1 a2 a3) (mD.f (k+1) a0 a1 a2 a3):=by
 intro a0 a1 a2 a3 k;unfold mD.f;exact mo (an jD.mono trivial)
set_option maxHeartbeats 8000000 in
set_option maxRecDepth 100000 in
theorem mD.calls (k:Nat) (ab:Int) (aa:Int) (a1:Int) (a2:Int) (r:Int) (w:World) (h:mD.f k ab aa a1 a2=some r) :
 Calls Tryz.prog 57 #[.agg #[.int .i64 ab,.int .i64 aa],.int .i64 a1,.int .i64 a2] w fun e w'=>e=.returned (.int .i64 r)∧Below w.heap.size w w':=by
 have av:=Tryz.underlying38;have HB:=am (Below.refl w.heap.size w);have H:((jD.f k (wrap64 (aa - a1)) a2).bind fun ae=>(some (wrap64 (-ae.1))))=some r:=h;clear h;replace H:=Option.bind_eq_some_iff.mp H;obtain ⟨⟨aj,ak,al⟩,A40,H⟩:=H;try dsimp only at H
 have A4:=am A40;clear A40;obtain rfl:=Option.some.inj H;go_enter Tryz.func57,Tryz.ntmps57;go_wp2_with (first | ((with_reducible refine iC (N:=3) rfl ?_);refine bx 3 38 #[.int .i64 ab,.int .i64 aa] ?_;intro af hg w5 ac hb;have ag:=am (ac);have ah:=am ((bz hg HB.out:w.heap.size≤af));have ai:=ah;replace HB:=xb HB hb;clear hb ac hg;obtain ⟨ao,ap,aq,au⟩:=b2 ag.out) | ((with_reducible refine gP (f:=58) rfl ?_);refine gl 16 Tryz.func58 #[.int .i64 (wrap64 (aa - a1)),.int .i64 a2] ?_;(with_reducible refine (jD.calls k (wrap64 (aa - a1)) a2 aj ak al _ A4.out).mono ?_);rintro e w' ⟨rfl,⟨nd,rfl⟩⟩;refine ⟨_,rfl,?_⟩));go_ret;exact ⟨rt,bl1 HB.out ai.out⟩
end Go.Proofs.YtmbmalkpmanaaaaGreat.P

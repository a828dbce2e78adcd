/- Lemmas for laws of chapter 7: what the functions that they reach compute. No condition of its own. -/
import Derived.Test.YtcomnjodjijcmaaGreatYE2
import Derived.Deep.MidRow
namespace Go.Proofs.YtcomnjodjijcmaaGreat.P
structure S25 where
  f0:Int
  f1:Int
  f2:(List (List S42))
  f3:(List S44)
end Go.Proofs.YtcomnjodjijcmaaGreat.P
namespace Go.Proofs.YtcomnjodjijcmaaGreat.M
set_option linter.unusedVariables false
open Go.RowKit Go.Proofs.YtcomnjodjijcmaaGreatW.dz
structure P2 where
  f0:List P.S42
  f1:List P.S42
inductive Ty where
  | int (k:IntKind) | bool | str | sp | gr | fm | ff | pr | sl (e:TypeId) (t:Ty)
  deriving DecidableEq
@[reducible] def Ty.T:Ty→Type
  | .int _=>Int
  | .bool=>Bool
  | .str=>ByteArray
  | .sp=>P.S42
  | .gr=>P.S44
  | .fm=>P.S25
  | .ff=>FuncId × FuncId
  | .pr=>P2
  | .sl _ t=>List t.T
def Ty.sz:Ty→Nat
  | .sp | .gr | .ff | .pr=>2
  | .fm=>4
  | _=>1
def Ty.z:(t:Ty)→t.T
  | .int _=>(0:Int)
  | .bool=>false
  | .str=>ByteArray.empty
  | .sp=>⟨0,0⟩
  | .gr=>⟨0,[]⟩
  | .fm=>⟨0,0,[],[]⟩
  | .ff=>(0,0)
  | .pr=>⟨[],[]⟩
  | .sl _ _=>[]
inductive Cell where
  | v (x:Value)
  | sl (t:Ty) (xs:List t.T)
  | ow (e:TypeId) (t:Ty) (xs:List t.T)
  | bp (l off:Nat)
  | ep (t:Ty) (x:t.T) (off:Nat)
  | fn (f:FuncId) (bs:List Nat)
  | yl (l:Nat)
  | mu (e:TypeId) (t:Ty) (xs:List t.T)
  | ar (l:Nat) (t:Ty) (n:Nat)
  | ae (l:Nat) (t:Ty) (i off:Nat)
  | mh (l:Nat)
  | ud
  | no
inductive Pt where
  | one (c:Cell)
  | agg (cs:List Cell)
inductive AV where
  | pt (p:Pt)
  | tup (ps:List Pt)
def Cell.un:Cell→Cell
  | .ow _ t xs=>.sl t xs
  | .mu _ _ _=>.no
  | c=>c
def Ty.cells:(t:Ty)→t.T→List Cell
  | .int k,x=>[.v (.int k x)]
  | .bool,x=>[.v (.bool x)]
  | .str,x=>[.v (.string x)]
  | .sp,x=>[.v (.int .i64 x.f0),.v (.int .i64 x.f1)]
  | .gr,x=>[.v (.int .i64 x.f0),.sl .sp x.f1]
  | .fm,x=>[.v (.int .i64 x.f0),.v (.int .i64 x.f1),.sl (.sl 42 .sp) x.f2,.sl .gr x.f3]
  | .ff,x=>[.fn x.1 [],.fn x.2 []]
  | .pr,x=>[.sl .sp x.f0,.sl .sp x.f1]
  | .sl _ t,x=>[.sl t x]
def Cell.asL (t:Ty):Cell→Option (List t.T)
  | .sl t' xs=>if h:t'=t then some (h ▸ xs) else none
  | .ow _ t' xs=>if h:t'=t then some (h ▸ xs) else none
  | _=>none
def Ty.of:(t:Ty)→List Cell→Option t.T
  | .int k,[.v (.int k' n)]=>if k'=k then some n else none
  | .bool,[.v (.bool b)]=>some b
  | .str,[.v (.string s)]=>some s
  | .sp,[.v (.int .i64 a),.v (.int .i64 b)]=>some ⟨a,b⟩
  | .gr,[.v (.int .i64 a),c]=>(c.asL .sp).map fun xs=>⟨a,xs⟩
  | .fm,[.v (.int .i64 a),.v (.int .i64 b),c,d]=>(c.asL (.sl 42 .sp)).bind fun xs=>(d.asL .gr).map fun ys=>⟨a,b,xs,ys⟩
  | .ff,[.fn a [],.fn b []]=>some (a,b)
  | .pr,[c,d]=>(c.asL .sp).bind fun xs=>(d.asL .sp).map fun ys=>⟨xs,ys⟩
  | .sl _ t,[c]=>c.asL t
  | _,_=>none
inductive Loc where
  | tm (fr i j k:Nat)
  | bc (l k:Nat)
  | bx (l:Nat)
  | rs (j k:Nat)
def Loc.below (n:Nat):Loc→Prop
  | .tm fr _ _ _=>fr<n
  | _=>False
structure Gh where
  ow:Nat→Option Loc
  pr:Nat→Nat→Prop
  bx:Nat→Nat
  lr:Nat→Loop
  lv:Nat→Prop
  av:Nat→Value
def jW (g:Gh) (W:World) (a:Addr) (v:Value):Prop:=W.cell? a=some v∧g.pr a.block a.off
def abT {α:Type} (R:α→List Value→Prop) (sz:Nat) (cp:Addr→Value→Prop) (A:Option Addr) (xs:List α):Prop :=
  ∀ i x,xs[i]? = some x→∃ b o vs,A=some ⟨b,o,none⟩∧R x vs∧vs.length=sz∧∀ j v,vs[j]? = some v→cp ⟨b,o+(i*sz+j),none⟩ v
def SlR {α:Type} (R:α→List Value→Prop) (sz:Nat) (cp:Addr→Value→Prop) (xs:List α) (v:Value):Prop :=
  ∃ A c,v=.slice A xs.length c∧xs.length≤c∧abT R sz cp A xs
def spR (x:P.S42) (vs:List Value):Prop:=vs=[.int .i64 x.f0,.int .i64 x.f1]
def grR (cp:Addr→Value→Prop) (x:P.S44) (vs:List Value):Prop:=∃ v,vs=[.int .i64 x.f0,v]∧SlR spR 2 cp x.f1 v
def lsR (cp:Addr→Value→Prop) (xs:List P.S42) (vs:List Value):Prop:=∃ v,vs=[v]∧SlR spR 2 cp xs v
def Ty.R (cp:Addr→Value→Prop):(t:Ty)→t.T→List Value→Prop
  | .int k,x,vs=>vs=[.int k x]
  | .bool,x,vs=>vs=[.bool x]
  | .str,x,vs=>vs=[.string x]
  | .sp,x,vs=>spR x vs
  | .gr,x,vs=>grR cp x vs
  | .fm,x,vs=>∃ v u,vs=[.int .i64 x.f0,.int .i64 x.f1,v,u]∧SlR (lsR cp) 1 cp x.f2 v∧SlR (grR cp) 2 cp x.f3 u
  | .ff,x,vs=>vs=[.func (.func x.1) #[] #[],.func (.func x.2) #[] #[]]
  | .pr,x,vs=>∃ v u,vs=[v,u]∧SlR spR 2 cp x.f0 v∧SlR spR 2 cp x.f1 u
  | .sl _ t,xs,vs=>∃ v,vs=[v]∧SlR (t.R cp) t.sz cp xs v
theorem abT.mono {α:Type} {R R':α→List Value→Prop} {sz:Nat} {cp cp':Addr→Value→Prop} {A:Option Addr} {xs:List α} (hR:∀ x vs,R x vs→R' x vs) (hc:∀ a v,cp a v→cp' a v) (h:abT R sz cp A xs):abT R' sz cp' A xs :=
  fun i x hx=>let ⟨b,o,vs,e,r,l,c⟩:=h i x hx;⟨b,o,vs,e,hR _ _ r,l,fun j v hv=>hc _ _ (c j v hv)⟩
theorem SlR.mono {α:Type} {R R':α→List Value→Prop} {sz:Nat} {cp cp':Addr→Value→Prop} {xs:List α} {v:Value} (hR:∀ x vs,R x vs→R' x vs) (hc:∀ a v,cp a v→cp' a v) (h:SlR R sz cp xs v):SlR R' sz cp' xs v :=
  let ⟨A,c,e,l,r⟩:=h;⟨A,c,e,l,r.mono hR hc⟩
theorem grR.mono {cp cp':Addr→Value→Prop} (hc:∀ a v,cp a v→cp' a v) (x:P.S44) (vs:List Value) (h:grR cp x vs):grR cp' x vs:=let ⟨v,e,s⟩:=h;⟨v,e,s.mono (fun _ _ h=>h) hc⟩
theorem lsR.mono {cp cp':Addr→Value→Prop} (hc:∀ a v,cp a v→cp' a v) (x:List P.S42) (vs:List Value) (h:lsR cp x vs):lsR cp' x vs:=let ⟨v,e,s⟩:=h;⟨v,e,s.mono (fun _ _ h=>h) hc⟩
theorem Ty.jr {cp cp':Addr→Value→Prop} (hc:∀ a v,cp a v→cp' a v):(t:Ty)→(x:t.T)→(vs:List Value)→t.R cp x vs→t.R cp' x vs
  | .int _,_,_,h=>h
  | .bool,_,_,h=>h
  | .str,_,_,h=>h
  | .sp,_,_,h=>h
  | .gr,x,vs,h=>grR.mono hc x vs h
  | .fm,x,vs,⟨v,u,e,s1,s2⟩=>⟨v,u,e,s1.mono (lsR.mono hc) hc,s2.mono (grR.mono hc) hc⟩
  | .ff,_,_,h=>h
  | .pr,x,vs,⟨v,u,e,s1,s2⟩=>⟨v,u,e,s1.mono (fun _ _ h=>h) hc,s2.mono (fun _ _ h=>h) hc⟩
  | .sl _ t,xs,vs,⟨v,e,s⟩=>⟨v,e,s.mono (t.jr hc) hc⟩
theorem Ty.ab7 {cp:Addr→Value→Prop}:(t:Ty)→{x:t.T}→{vs:List Value}→t.R cp x vs→vs.length=t.sz
  | .int _,_,_,h=>by have h:_=_:=h;rw [h];rfl
  | .bool,_,_,h=>by have h:_=_:=h;rw [h];rfl
  | .str,_,_,h=>by have h:_=_:=h;rw [h];rfl
  | .sp,_,_,h=>by have h:_=_:=h;rw [h];rfl
  | .gr,_,_,⟨_,e,_⟩=>by rw [e];rfl
  | .fm,_,_,⟨_,_,e,_⟩=>by rw [e];rfl
  | .ff,_,_,h=>by have h:_=_:=h;rw [h];rfl
  | .pr,_,_,⟨_,_,e,_⟩=>by rw [e];rfl
  | .sl _ _,_,_,⟨_,e,_⟩=>by rw [e];rfl
theorem Ty.oF (t:Ty):0<t.sz:=by cases t <;> simp [Ty.sz]
def CR (nb:Nat) (g:Gh) (W:World) (ℓ:Loc):Cell→Value→Prop
  | .v x,u=>u=x∧x.oneCell'=true
  | .ud,u=>u=undef
  | .sl t xs,u=>SlR (t.R (jW g W)) t.sz (jW g W) xs u
  | .ow e t xs,u=>SlR (t.R (jW g W)) t.sz (jW g W) xs u∧(∃ cs,W.ownsRow 0 e t.sz u xs.length cs)∧∀ b,u.ownBlock=some b→g.ow b=some ℓ∧∀ o,g.pr b o→o<xs.length*t.sz
  | .bp l off,u=>(l<nb∧g.lv l)∧u=.pointer (some ⟨g.bx l,off,none⟩)
  | .ep t x off,u=>∃ (b o:Nat) (vs:List Value),u=.pointer (some ⟨b,o+off,none⟩)∧t.R (jW g W) x vs∧∀ j v,vs[j]? = some v→jW g W ⟨b,o+j,none⟩ v
  | .fn f bs,u=>(∀ l∈bs,l<nb∧g.lv l)∧u=.func (.func f) #[] (bs.map fun l=>Value.pointer (some ⟨g.bx l,0,none⟩)).toArray
  | .yl l,u=>(l<nb∧g.lv l)∧u=.func (.yield (g.bx l)) #[] #[]
  | .mu e t xs,u=>SlR (t.R (jW g W)) t.sz (fun a v=>W.cell? a=some v) xs u∧(∃ cs,W.ownsRow 0 e t.sz u xs.length cs)∧∀ b,u.ownBlock=some b→g.ow b=some ℓ∧∀ o,¬ g.pr b o
  | .ar l t n,u=>(l<nb∧g.lv l)∧u=g.av l∧∃ A c,g.av l=.slice A n c∧n≤c∧(0<n→∃ b,A=some ⟨b,0,none⟩)
  | .ae l t i off,u=>(l<nb∧g.lv l)∧∃ b n c,g.av l=.slice (some ⟨b,0,none⟩) n c∧i<n∧u=.pointer (some ⟨b,i*t.sz+off,none⟩)
  | .mh l,u=>(l<nb∧g.lv l)∧u=.map (some (g.bx l))
  | .no,_=>True
def CsR (nb:Nat) (g:Gh) (W:World) (loc:Nat→Loc) (cs:List Cell) (vs:List Value):Prop :=
  cs.length=vs.length∧∀ k c v,cs[k]? = some c→vs[k]? = some v→CR nb g W (loc k) c v
def PtR (nb:Nat) (g:Gh) (W:World) (loc:Nat→Loc):Pt→Value→Prop
  | .one c,u=>CR nb g W (loc 0) c u
  | .agg cs,u=>∃ vs,u=.agg vs∧CsR nb g W loc cs vs.toList
def AVR (nb:Nat) (g:Gh) (W:World) (fr i:Nat):AV→Value→Prop
  | .pt p,u=>PtR nb g W (.tm fr i 0) p u
  | .tup ps,u=>∃ vs,u=.tuple vs∧ps.length=vs.size∧∀ j p v,ps[j]? = some p→vs[j]? = some v→PtR nb g W (.tm fr i j) p v
inductive dQ where
  | normal | exit (id:Nat) | ret | goto (l:Nat)
  deriving DecidableEq
def dQ.code:dQ→Option Code
  | .normal=>none
  | .exit id=>some (.exit id)
  | .ret=>some .ret
  | .goto l=>some (.goto l)
inductive Bx where
  | box (t:TypeId) (cs:List Cell)
  | lp (e:dQ)
  | lpb
  | arr (e:TypeId) (t:Ty) (xs:List t.T)
  | mi (xs:List (Int × Int))
  | gone
  | no
structure Evo (A:Loc→Prop) (nb:Nat) (g:Gh) (W:World) (g':Gh) (W':World):Prop where
  os:W'.os=W.os
  tape:W'.tape=W.tape
  output:W'.output=W.output
  size:W.heap.size≤W'.heap.size
  keep:∀ b o,g.pr b o→g'.pr b o∧∀ v,W.cell? ⟨b,o,none⟩=some v→W'.cell? ⟨b,o,none⟩=some v
  far:∀ b,b<W.heap.size→(∀ ℓ,g.ow b=some ℓ→A ℓ)→W'.heap[b]? = W.heap[b]? ∧ g'.ow b=g.ow b∧∀ o,g'.pr b o→g.pr b o
  bx:∀ l,l<nb→g.lv l→g'.lv l∧g'.bx l=g.bx l∧g'.lr l=g.lr l∧g'.av l=g.av l
theorem Loc.qU {n m:Nat} (h:n≤m):{ℓ:Loc}→ℓ.below n→ℓ.below m
  | .tm _ _ _ _,h'=>Nat.lt_of_lt_of_le h' h
  | .bc _ _,h'=>h'
  | .bx _,h'=>h'
  | .rs _ _,h'=>h'
theorem Evo.refl (A:Loc→Prop) (nb:Nat) (g:Gh) (W:World):Evo A nb g W g W:=⟨rfl,rfl,rfl,Nat.le_refl _,fun _ _ h=>⟨h,fun _ h=>h⟩,fun _ _ _=>⟨rfl,rfl,fun _ h=>h⟩,fun _ _ h=>⟨h,rfl,rfl,rfl⟩⟩
theorem Evo.trans {A:Loc→Prop} {nb nb':Nat} {g g1 g2:Gh} {W W1 W2:World} (h:Evo A nb g W g1 W1) (k:Evo A nb' g1 W1 g2 W2) (hn:nb≤nb'):Evo A nb g W g2 W2 :=
  ⟨k.os.trans h.os,k.tape.trans h.tape,k.output.trans h.output,Nat.le_trans h.size k.size,
   fun b o hp=>let ⟨p,c⟩:=h.keep b o hp;let ⟨p',c'⟩:=k.keep b o p;⟨p',fun v hv=>c' v (c v hv)⟩,
   fun b hb ho=>by
    obtain ⟨a1,a2,a3⟩:=h.far b hb ho;obtain ⟨b1,b2,b3⟩:=k.far b (Nat.lt_of_lt_of_le hb h.size) (fun ℓ hl=>ho ℓ (a2 ▸ hl));exact ⟨b1.trans a1,b2.trans a2,fun o ho=>a3 o (b3 o ho)⟩,
   fun l hl hv=>let ⟨a,b,c,d⟩:=h.bx l hl hv;let ⟨a',b',c',d'⟩:=k.bx l (Nat.lt_of_lt_of_le hl hn) a;⟨a',b'.trans b,c'.trans c,d'.trans d⟩⟩
theorem Evo.weaken {A A':Loc→Prop} {nb nb':Nat} {g g':Gh} {W W':World} (h:Evo A nb g W g' W') (hf:∀ ℓ,A' ℓ→A ℓ) (hn:nb'≤nb):Evo A' nb' g W g' W' :=
  ⟨h.os,h.tape,h.output,h.size,h.keep,fun b hb ho=>h.far b hb (fun ℓ hl=>hf _ (ho ℓ hl)),fun l hl=>h.bx l (Nat.lt_of_lt_of_le hl hn)⟩
theorem pK {W:World} {a:Addr} {v:Value} (h:W.cell? a=some v):a.spot=none:=by
  unfold World.cell? at h;split at h
  · split at h
    · cases h
    · rename_i hs;cases hp:a.spot with
      | none=>rfl
      | some x=>rw [hp] at hs;simp at hs
  · cases h
theorem Evo.cp {A:Loc→Prop} {nb:Nat} {g g':Gh} {W W':World} (h:Evo A nb g W g' W') (a:Addr) (v:Value) (hc:jW g W a v):jW g' W' a v:=by
  obtain ⟨b,o,s⟩:=a;obtain rfl:s=none:=pK hc.1;exact ⟨(h.keep b o hc.2).2 v hc.1,(h.keep b o hc.2).1⟩
def Cell.owned:Cell→Bool
  | .ow _ _ _ | .mu _ _ _=>true
  | _=>false
theorem CR.evo {A:Loc→Prop} {nb nb':Nat} {g g':Gh} {W W':World} (h:Evo A nb g W g' W') (hn:nb≤nb') {ℓ:Loc}:{c:Cell}→{u:Value}→CR nb g W ℓ c u→(c.owned=true→A ℓ)→CR nb' g' W' ℓ c u
  | .v _,_,hc,_=>hc
  | .sl t _,_,hc,_=>hc.mono (t.jr h.cp) h.cp
  | .ow e t xs,u,⟨h1,⟨cs,h2⟩,h3⟩,hl=>by
    have key:∀ b,u.ownBlock=some b→W'.heap[b]? = W.heap[b]? ∧ g'.ow b=g.ow b∧∀ o,g'.pr b o→g.pr b o:=fun b hb =>
      h.far b (h2.lt b hb).2 (fun ℓ' hl'=>by rw [(h3 b hb).1] at hl';cases hl';exact hl rfl)
    refine ⟨h1.mono (t.jr h.cp) h.cp,⟨cs,h2.1,?_⟩,fun b hb=>⟨(key b hb).2.1.trans (h3 b hb).1,fun o ho=>(h3 b hb).2 o ((key b hb).2.2 o ho)⟩⟩;rcases h2.2 with h2 | ⟨b,cap,cur,rfl,h4,h5,h6⟩
    · exact .inl h2
    · exact .inr ⟨b,cap,cur,rfl,h4,(key b rfl).1.trans h5,h6⟩
  | .mu e t xs,u,⟨h1,⟨cs,h2⟩,h3⟩,hl=>by
    have key:∀ b,u.ownBlock=some b→W'.heap[b]? = W.heap[b]? ∧ g'.ow b=g.ow b∧∀ o,g'.pr b o→g.pr b o:=fun b hb =>
      h.far b (h2.lt b hb).2 (fun ℓ' hl'=>by rw [(h3 b hb).1] at hl';cases hl';exact hl rfl)
    refine ⟨?_,⟨cs,h2.1,?_⟩,fun b hb=>⟨(key b hb).2.1.trans (h3 b hb).1,fun o ho=>(h3 b hb).2 o ((key b hb).2.2 o ho)⟩⟩
    · obtain ⟨A,c,rfl,hle,hr⟩:=h1
      refine ⟨A,c,rfl,hle,fun i x hx => ?_⟩;obtain ⟨b,o,vs,e1,hR,hL,hC⟩:=hr i x hx;refine ⟨b,o,vs,e1,t.jr h.cp _ _ hR,hL,fun j v hv => ?_⟩;have hb:(Value.slice A xs.length c).ownBlock=some b:=by rw [e1];rfl
      have:=hC j v hv;have e2:=(key b hb).1;unfold World.cell? at this ⊢;simp only at this ⊢;rw [e2];exact this
    · rcases h2.2 with h2 | ⟨b,cap,cur,rfl,h4,h5,h6⟩
      · exact .inl h2
      · exact .inr ⟨b,cap,cur,rfl,h4,(key b rfl).1.trans h5,h6⟩
  | .ar l t n,_,⟨⟨hl,hv⟩,e,e2⟩,_=>⟨⟨Nat.lt_of_lt_of_le hl hn,(h.bx l hl hv).1⟩,by rw [(h.bx l hl hv).2.2.2];exact ⟨e,e2⟩⟩
  | .ae l t i off,_,⟨⟨hl,hv⟩,e⟩,_=>⟨⟨Nat.lt_of_lt_of_le hl hn,(h.bx l hl hv).1⟩,by rw [(h.bx l hl hv).2.2.2];exact e⟩
  | .mh l,_,⟨⟨hl,hv⟩,e⟩,_=>⟨⟨Nat.lt_of_lt_of_le hl hn,(h.bx l hl hv).1⟩,by rw [(h.bx l hl hv).2.1];exact e⟩
  | .bp l off,_,⟨⟨hl,hv⟩,e⟩,_=>⟨⟨Nat.lt_of_lt_of_le hl hn,(h.bx l hl hv).1⟩,by rw [(h.bx l hl hv).2.1];exact e⟩
  | .ep t x off,_,⟨b,o,vs,e,r,c⟩,_=>⟨b,o,vs,e,t.jr h.cp _ _ r,fun j v hv=>h.cp _ _ (c j v hv)⟩
  | .fn f bs,_,⟨hl,e⟩,_=>⟨fun l h'=>⟨Nat.lt_of_lt_of_le (hl l h').1 hn,(h.bx l (hl l h').1 (hl l h').2).1⟩,by rw [e];congr 2;exact List.map_congr_left fun l h'=>by rw [(h.bx l (hl l h').1 (hl l h').2).2.1]⟩
  | .yl l,_,⟨⟨hl,hv⟩,e⟩,_=>⟨⟨Nat.lt_of_lt_of_le hl hn,(h.bx l hl hv).1⟩,by rw [(h.bx l hl hv).2.1];exact e⟩
  | .ud,_,h,_=>h
  | .no,_,_,_=>trivial
theorem CR.un {nb:Nat} {g:Gh} {W:World} {ℓ ℓ':Loc}:{c:Cell}→{u:Value}→CR nb g W ℓ c u→CR nb g W ℓ' c.un u
  | .v _,_,h=>h
  | .sl _ _,_,h=>h
  | .ow _ _ _,_,h=>h.1
  | .bp _ _,_,h=>h
  | .ep _ _ _,_,h=>h
  | .fn _ _,_,h=>h
  | .yl _,_,h=>h
  | .mu _ _ _,_,_=>trivial
  | .ar _ _ _,_,h=>h
  | .ae _ _ _ _,_,h=>h
  | .mh _,_,h=>h
  | .ud,_,h=>h
  | .no,_,h=>h
end Go.Proofs.YtcomnjodjijcmaaGreat.M
namespace Go.Proofs.YtcomnjodjijcmaaGreat.M
set_option linter.unusedVariables false
open Go.RowKit Go.Proofs.YtcomnjodjijcmaaGreatW.dz
structure St where
  tm:List AV
  bx:List Bx
def FrR (nb:Nat) (g:Gh) (W:World) (fr:Nat) (tm:List AV) (a:Array Value):Prop :=
  tm.length=a.size∧∀ i x v,tm[i]? = some x→a[i]? = some v→AVR nb g W fr i x v
def BxR (nb:Nat) (g:Gh) (W:World) (l:Nat):Bx→Prop
  | .box t cs=>g.lv l∧g.ow (g.bx l)=some (.bx l)∧(∀ o,¬ g.pr (g.bx l) o)∧∃ vs:Array Value,W.heap[g.bx l]? = some (.cells vs t (0,0))∧CsR nb g W (.bc l) cs vs.toList∧∀ v∈vs.toList,v.oneCell'=true
  | .lp e=>g.lv l∧g.ow (g.bx l)=some (.bx l)∧(∀ o,¬ g.pr (g.bx l) o)∧W.heap[g.bx l]? = some (.loop { g.lr l with state:=if e=.normal then .ready else .done,pending:=e.code })
  | .lpb=>g.lv l∧g.ow (g.bx l)=some (.bx l)∧(∀ o,¬ g.pr (g.bx l) o)∧W.heap[g.bx l]? = some (.loop { g.lr l with state:=.busy,pending:=none })
  | .arr e t xs=>g.lv l∧SlR (t.R (jW g W)) t.sz (fun a v=>W.cell? a=some v) xs (g.av l)∧(∃ cs,W.ownsRow 0 e t.sz (g.av l) xs.length cs)∧∀ b,(g.av l).ownBlock=some b→g.ow b=some (.bx l)∧∀ o,¬ g.pr b o
  | .mi xs=>g.lv l∧g.ow (g.bx l)=some (.bx l)∧(∀ o,¬ g.pr (g.bx l) o)∧∃ (es:Array MapEntry) (ck:Nat),W.heap[g.bx l]? = some (.map es ck)∧es.toList.map (fun e=>(e.key,e.val))=xs.map fun p=>(Value.int .i64 p.1,Value.int .i64 p.2)
  | .gone=>g.lv l
  | .no=>¬ g.lv l
def nR (g:Gh) (W:World) (bx:List Bx):Prop:=∀ l B,bx[l]? = some B→BxR bx.length g W l B
structure Wf (g:Gh) (W:World):Prop where
  pr:∀ b o,g.pr b o→b<W.heap.size
  ow:∀ b ℓ,g.ow b=some ℓ→b<W.heap.size
structure Rel (fr:Nat) (g:Gh) (W:World) (σ:St) (a:Array Value):Prop where
  wf:Wf g W
  fr:FrR σ.bx.length g W fr σ.tm a
  bx:nR g W σ.bx
  top:∀ l,σ.bx.length≤l→¬ g.lv l
theorem PtR.evo {A:Loc→Prop} {nb nb':Nat} {g g':Gh} {W W':World} (h:Evo A nb g W g' W') (hn:nb≤nb') {loc:Nat→Loc} (hl:∀ k,A (loc k)):{p:Pt}→{u:Value}→PtR nb g W loc p u→PtR nb' g' W' loc p u
  | .one c,_,hc=>CR.evo h hn hc (fun _=>hl 0)
  | .agg cs,_,⟨vs,e,l,r⟩=>⟨vs,e,l,fun k c v hc hv=>CR.evo h hn (r k c v hc hv) (fun _=>hl k)⟩
theorem AVR.evo {A:Loc→Prop} {fr nb nb':Nat} {g g':Gh} {W W':World} (h:Evo A nb g W g' W') (hn:nb≤nb') {i:Nat} (hf:∀ j k,A (.tm fr i j k)):{x:AV}→{u:Value}→AVR nb g W fr i x u→AVR nb' g' W' fr i x u
  | .pt p,_,hp=>PtR.evo h hn (hf 0) hp
  | .tup ps,_,⟨vs,e,l,r⟩=>⟨vs,e,l,fun j p v hp hv=>PtR.evo h hn (hf j) (r j p v hp hv)⟩
theorem FrR.evo {A:Loc→Prop} {fr nb nb':Nat} {g g':Gh} {W W':World} (h:Evo A nb g W g' W') (hn:nb≤nb') (hf:∀ i j k,A (.tm fr i j k)) {tm:List AV} {a:Array Value} (hr:FrR nb g W fr tm a):FrR nb' g' W' fr tm a :=
  ⟨hr.1,fun i x v hx hv=>(hr.2 i x v hx hv).evo h hn (hf i)⟩
def Pt.un:Pt→Pt
  | .one c=>.one c.un
  | .agg cs=>.agg (cs.map Cell.un)
def AV.un:AV→AV
  | .pt p=>.pt p.un
  | .tup ps=>.tup (ps.map Pt.un)
def Pt.owned:Pt→Bool
  | .one c=>c.owned
  | .agg cs=>cs.any Cell.owned
def AV.owned:AV→Bool
  | .pt p=>p.owned
  | .tup ps=>ps.any Pt.owned
theorem Cell.lW (c:Cell):c.un.owned=false:=by cases c <;> rfl
theorem Cell.ae9 {c:Cell} (h:c.owned=false):c.un=c:=by cases c <;> first | rfl | cases h
theorem CsR.un {nb:Nat} {g:Gh} {W:World} {loc loc':Nat→Loc} {cs:List Cell} {vs:List Value} (h:CsR nb g W loc cs vs):CsR nb g W loc' (cs.map Cell.un) vs :=
  ⟨by rw [List.length_map];exact h.1,fun k c v hc hv=>by
    rw [List.getElem?_map] at hc;obtain ⟨c0,h0,rfl⟩:=Option.map_eq_some_iff.mp hc;exact (h.2 k c0 v h0 hv).un⟩
theorem PtR.un {nb:Nat} {g:Gh} {W:World} {loc loc':Nat→Loc}:{p:Pt}→{u:Value}→PtR nb g W loc p u→PtR nb g W loc' p.un u
  | .one _,_,h=>CR.un h
  | .agg _,_,⟨vs,e,r⟩=>⟨vs,e,r.un⟩
theorem AVR.un {nb:Nat} {g:Gh} {W:World} {fr i fr' i':Nat}:{x:AV}→{u:Value}→AVR nb g W fr i x u→AVR nb g W fr' i' x.un u
  | .pt _,_,h=>PtR.un h
  | .tup ps,_,⟨vs,e,l,r⟩=>⟨vs,e,by rw [List.length_map];exact l,fun j p v hp hv=>by
    rw [List.getElem?_map] at hp;obtain ⟨p0,h0,rfl⟩:=Option.map_eq_some_iff.mp hp;exact (r j p0 v h0 hv).un⟩
def Gh.ren (g:Gh) (f:Loc→Loc):Gh:={ g with ow:=fun b=>(g.ow b).map f }
theorem CR.ren {nb:Nat} {g:Gh} {W:World} {ℓ:Loc} {f:Loc→Loc}:{c:Cell}→{u:Value}→CR nb g W ℓ c u→CR nb (g.ren f) W (f ℓ) c u
  | .v _,_,h=>h
  | .sl _ _,_,h=>h
  | .ow _ _ _,_,⟨h1,h2,h3⟩=>⟨h1,h2,fun b hb=>⟨by show (g.ow b).map f=_;rw [(h3 b hb).1];rfl,(h3 b hb).2⟩⟩
  | .mu _ _ _,_,⟨h1,h2,h3⟩=>⟨h1,h2,fun b hb=>⟨by show (g.ow b).map f=_;rw [(h3 b hb).1];rfl,(h3 b hb).2⟩⟩
  | .ar _ _ _,_,h=>h
  | .ae _ _ _ _,_,h=>h
  | .mh _,_,h=>h
  | .bp _ _,_,h=>h
  | .ep _ _ _,_,h=>h
  | .fn _ _,_,h=>h
  | .yl _,_,h=>h
  | .ud,_,h=>h
  | .no,_,h=>h
theorem Evo.ren {A:Loc→Prop} {nb:Nat} {g:Gh} {W:World} {f:Loc→Loc} (hf:∀ ℓ,A ℓ→f ℓ=ℓ):Evo A nb g W (g.ren f) W :=
  ⟨rfl,rfl,rfl,Nat.le_refl _,fun _ _ h=>⟨h,fun _ h=>h⟩,fun b hb ho=>⟨rfl,by
    show (g.ow b).map f=g.ow b;cases hw:g.ow b with
    | none=>rfl
    | some ℓ=>rw [Option.map_some,hf ℓ (ho ℓ hw)],fun _ h=>h⟩,fun _ _ h=>⟨h,rfl,rfl,rfl⟩⟩
theorem Wf.ren {g:Gh} {W:World} {f:Loc→Loc} (h:Wf g W):Wf (g.ren f) W :=
  ⟨h.pr,fun b ℓ hl=>by
    obtain ⟨ℓ0,h0,_⟩:=Option.map_eq_some_iff.mp hl;exact h.ow b ℓ0 h0⟩
def zS (zc:TypeId→Option (List Cell)) (ty:TypeId):Value→Option AV
  | .slice none 0 0=>match zc ty with
    | some [.ow e k _]=>some (.pt (.one (.ow e k [])))
    | _=>none
  | .agg _=>none
  | .tuple _=>none
  | x=>some (.pt (.one (.v x)))
def opd (zc:TypeId→Option (List Cell)) (tm:List AV) (ty:TypeId):Operand→Option AV
  | .tmp t=>(tm[t]?).map AV.un
  | .const x=>zS zc ty x
  | .func f=>some (.pt (.one (.fn f [])))
  | .global _=>none
end Go.Proofs.YtcomnjodjijcmaaGreat.M
namespace Go.Proofs.YtcomnjodjijcmaaGreat.M
noncomputable section
set_option linter.unusedVariables false
set_option linter.unusedSimpArgs false
open Go.RowKit Go.Proofs.YtcomnjodjijcmaaGreatW.dz Go.Proofs.YtcomnjodjijcmaaGreatW.dX Go.Proofs.YtcomnjodjijcmaaGreatW.eD
structure Tb where
  sh:TypeId→Option (Bool × Nat)
  zc:TypeId→Option (List Cell)
  fo:TypeId→Nat→Option Nat
  el:TypeId→Option (TypeId × Ty × Nat)
  ik:TypeId→Option IntKind
  bl:TypeId→Bool
  st:TypeId→Option (List (Nat × Nat × TypeId))
  e2:TypeId→Bool
  mp:TypeId→Option (TypeId × TypeId)
structure lX (P:Program) (T:Tb):Prop where
  mp:∀ t kt et,T.mp t=some (kt,et)→P.underlying t=some (.map kt et)∧P.underlying kt=some (.int .i64)∧∃ z,(P.info? et).map (·.zero)=some (some z)∧z=.int .i64 0
  sh:∀ t ag n,T.sh t=some (ag,n)→(∃ d,P.underlying t=some d∧d.isRow=ag)∧(P.info? t).map (·.size)=some n
  zc:∀ t cs,T.zc t=some cs→∃ z,(P.info? t).map (·.zero)=some (some z)∧(∀ nb g W loc,CsR nb g W loc cs z.cells.toList)∧∀ v∈z.cells.toList,v.oneCell'=true
  fo:∀ t f off,T.fo t f=some off→∃ fs fd i,P.underlying t=some (.struct fs)∧fs[f]? = some fd∧fd.offset=off∧P.info? fd.type=some i∧i.size≠0
  el:∀ t e k by',T.el t=some (e,k,by')→P.underlying t=some (.slice e)∧∃ i z,P.info? e=some i∧i.zero=some z∧i.size=k.sz∧i.bytes=by'∧z.cells.size=k.sz∧0<by'
  ik:∀ t k,T.ik t=some k→P.underlying t=some (.int k)
  bl:∀ t,T.bl t=true→P.underlying t=some .bool
  st:∀ t ps,T.st t=some ps→∃ fs,P.underlying t=some (.struct fs)∧∀ W,(fs.mapM fun f=>(do pure (f.offset,← sizeOf f.type):Sem (Nat × Nat))).run P W=.ok (ps.map fun p=>(p.1,p.2.1)).toArray W
  e2:∀ t,T.e2 t=true→∀ (op:BinOp) (x y:Operand) (a0 a1 b0 b1:Int) (W:World),(eqGuard op t x y (.agg #[.int .i64 a0,.int .i64 a1]) (.agg #[.int .i64 b0,.int .i64 b1])).run P W=.ok () W∧(Op.equal t (.agg #[.int .i64 a0,.int .i64 a1]) (.agg #[.int .i64 b0,.int .i64 b1])).run P W=.ok (a0==b0&&a1==b1) W
theorem afa:∃ f:IntKind→Int→Int,∀ k n,f k n=k.wrap n:=⟨_,fun _ _=>rfl⟩
abbrev WT:={ f:IntKind→Int→Int // ∀ k n,f k n=k.wrap n }
instance wtC:Inhabited WT:=⟨⟨Classical.choose afa,Classical.choose_spec afa⟩⟩
def wC [i:Inhabited WT]:IntKind→Int→Int:=i.default.1
theorem aam [i:Inhabited WT] (k:IntKind) (n:Int):wC k n=k.wrap n:=i.default.2 k n
abbrev wtT:Inhabited WT:=⟨⟨IntKind.wrap,fun _ _=>rfl⟩⟩
theorem afb (i j:Inhabited WT):i=j:=by
  obtain ⟨⟨a,ha⟩⟩:=i;obtain ⟨⟨b,hb⟩⟩:=j;obtain rfl:a=b:=funext fun k=>funext fun n=>(ha k n).trans (hb k n).symm;rfl
def small:Nat→Nat→Bool
  | 0,_=>false
  | _+1,0=>true
  | f+1,m+1=>small f m
theorem rX:∀ {f m:Nat},small f m=true→m<f
  | 0,_,h=>by cases h
  | _+1,0,_=>Nat.succ_pos _
  | _+1,_+1,h=>Nat.succ_lt_succ (rX h)
def wq [Inhabited WT] (n:Int):Int:=match n with
  | .ofNat m=>(match small 1000 m with
    | true=>.ofNat m
    | false=>wC .i64 n)
  | .negSucc m=>(match small 1000 m with
    | true=>.negSucc m
    | false=>wC .i64 n)
theorem yQ [Inhabited WT] (n:Int):wq n=wrap64 n:=by
  unfold wq;split <;> split
  · rename_i m _ h
    have:=rX h;rw [Int.ofNat_eq_natCast];unfold wrap64;omega
  · rw [aam,adR]
  · rename_i m _ h
    have:=rX h;rw [Int.negSucc_eq];unfold wrap64;omega
  · rw [aam,adR]
def wr [Inhabited WT] (k:IntKind) (n:Int):Int:=match k with
  | .i64=>wq n
  | k=>wC k n
theorem ab8 [Inhabited WT] (k:IntKind) (n:Int):wr k n=k.wrap n:=by cases k <;> first | exact aam _ n | exact (yQ n).trans (adR n).symm
def adn (op:BinOp):Value→Value→Option Value
  | .int k a,.int k' b=>if k=k' then (match op with
      | .add=>some (.int k (wr k (a+b)))
      | .sub=>some (.int k (wr k (a - b)))
      | .mul=>some (.int k (wr k (a*b)))
      | .quo=>if b=0 then none else some (.int k (wr k (Int.tdiv a b)))
      | .rem=>if b=0 then none else some (.int k (Int.tmod a b))
      | .eql=>some (.bool (decide (a=b)))
      | .neq=>some (.bool (!decide (a=b)))
      | .lss=>some (.bool (decide (a<b)))
      | .leq=>some (.bool (decide (a≤b)))
      | .gtr=>some (.bool (decide (a>b)))
      | .geq=>some (.bool (decide (a≥b)))
      | _=>none) else none
  | .string a,.string b=>(match op with
      | .eql=>some (.bool (a.toList==b.toList))
      | .neq=>some (.bool (!(a.toList==b.toList)))
      | _=>none)
  | _,_=>none
section
variable {nb:Nat} {g:Gh} {W:World}
def Pt.cells:Pt→List Cell
  | .one c=>[c]
  | .agg cs=>cs
def Pt.isAgg:Pt→Bool
  | .one _=>false
  | .agg _=>true
theorem CR.one {ℓ:Loc}:{c:Cell}→{u:Value}→CR nb g W ℓ c u→c≠.ud→c≠.no→u.oneCell'=true
  | .v _,_,⟨e,h⟩,_,_=>by rw [e];exact h
  | .sl _ _,_,⟨A,c,e,_⟩,_,_=>by rw [e];rfl
  | .ow _ _ _,_,⟨⟨A,c,e,_⟩,_⟩,_,_=>by rw [e];rfl
  | .bp _ _,_,⟨_,e⟩,_,_=>by rw [e];rfl
  | .ep _ _ _,_,⟨_,_,_,e,_⟩,_,_=>by rw [e];rfl
  | .fn _ _,_,⟨_,e⟩,_,_=>by rw [e];rfl
  | .yl _,_,⟨_,e⟩,_,_=>by rw [e];rfl
  | .mu _ _ _,_,⟨⟨A,c,e,_⟩,_⟩,_,_=>by rw [e];rfl
  | .ar _ _ _,_,⟨_,e,A,c,e2,_⟩,_,_=>by rw [e,e2];rfl
  | .ae _ _ _ _,_,⟨_,b,n,c,_,_,e⟩,_,_=>by rw [e];rfl
  | .mh _,_,⟨_,e⟩,_,_=>by rw [e];rfl
  | .ud,_,_,h,_=>(h rfl).elim
  | .no,_,_,_,h=>(h rfl).elim
def Cell.good:Cell→Bool
  | .ud | .no=>false
  | _=>true
theorem CsR.one {loc:Nat→Loc} {cs:List Cell} {vs:List Value} (h:CsR nb g W loc cs vs) (hg:cs.all Cell.good=true):∀ v∈vs,v.oneCell'=true:=by
  intro v hv;obtain ⟨k,hk⟩:=List.getElem?_of_mem hv;have hlt:k<cs.length:=by rw [h.1];exact (List.getElem?_eq_some_iff.1 hk).1
  have hc:=List.getElem?_eq_getElem hlt;have:=List.all_eq_true.1 hg _ (List.getElem_mem hlt);exact (h.2 k _ v hc hk).one (fun e=>by rw [e] at this;cases this) (fun e=>by rw [e] at this;cases this)
theorem PtR.cells {loc:Nat→Loc}:{p:Pt}→{u:Value}→PtR nb g W loc p u→p.cells.all Cell.good=true→CsR nb g W loc p.cells u.cells.toList
  | .one c,u,h,hg=>by
    have hg':c.good=true:=by simpa [Pt.cells] using hg
    have h1:=CR.one h (fun e=>by rw [e] at hg';cases hg') (fun e=>by rw [e] at hg';cases hg');have e:u.cells.toList=[u]:=by cases u <;> first | rfl | cases h1
    rw [e];refine ⟨rfl,fun k c' v' hc hv => ?_⟩;cases k with
    | zero=>simp [Pt.cells] at hc hv;subst hc;subst hv;exact h
    | succ k=>simp [Pt.cells] at hc
  | .agg cs,u,⟨vs,e,h⟩,_=>by rw [e];exact h
def splice {α:Type} (cs:List α) (off:Nat) (ys:List α):List α:=cs.take off++ys++cs.drop (off+ys.length)
theorem jG {α:Type} {cs ys:List α} {off:Nat} (h:off+ys.length≤cs.length):(splice cs off ys).length=cs.length:=by simp [splice];omega
theorem jN {α:Type} {cs ys:List α} {off:Nat} (h:off+ys.length≤cs.length) (k:Nat):(splice cs off ys)[k]? = if off≤k∧k<off+ys.length then ys[k - off]? else cs[k]? := by
  unfold splice;have h1:(cs.take off).length=off:=by simp;omega
  rw [List.append_assoc,List.getElem?_append];rw [h1];split
  · rename_i hk
    rw [List.getElem?_take,if_pos hk,if_neg (by omega)]
  · rename_i hk
    rw [List.getElem?_append];split
    · rename_i hk2
      rw [if_pos (by omega)]
    · rename_i hk2
      rw [if_neg (by omega),List.getElem?_drop];congr 1;omega
end
def zT (T:Tb) (t:TypeId) (op:BinOp):Value→Value→Option Value
  | .bool a,.bool b=>if T.bl t=true then (match op with
      | .eql=>some (.bool (a==b))
      | .neq=>some (.bool (!(a==b)))
      | _=>none) else none
  | .int k a,.int k' b=>(match op with
      | .shl=>if b<0 then none else some (.int k (k.wrap (a*2 ^ (min b.toNat k.bits))))
      | .shr=>if b<0 then none else some (.int k (a.fdiv (2 ^ (min b.toNat k.bits))))
      | .and=>if k=k' then some (.int k (k.wrap (BitVec.ofInt k.bits a &&& BitVec.ofInt k.bits b).toNat)) else none
      | .or=>if k=k' then some (.int k (k.wrap (BitVec.ofInt k.bits a ||| BitVec.ofInt k.bits b).toNat)) else none
      | .xor=>if k=k' then some (.int k (k.wrap (BitVec.ofInt k.bits a ^^^ BitVec.ofInt k.bits b).toNat)) else none
      | .andNot=>if k=k' then some (.int k (k.wrap (BitVec.ofInt k.bits a &&& ~~~BitVec.ofInt k.bits b).toNat)) else none
      | op=>adn op (.int k a) (.int k' b))
  | u,v=>adn op u v
def unV (op:UnOp):Value→Option Value
  | .int k a=>match op with
    | .neg=>some (.int k (wr k (0 - a)))
    | _=>none
  | .bool b=>match op with
    | .not=>some (.bool (!b))
    | _=>none
  | _=>none
def abU (cs:List Cell) (off:Nat):Bool × Nat→Option Pt
  | (false,_)=>(cs[off]?).map fun c=>.one c.un
  | (true,n)=>if off+n≤cs.length then some (.agg (((cs.drop off).take n).map Cell.un)) else none
def intOf? : AV→Option Int
  | .pt (.one (.v (.int _ i)))=>some i
  | _=>none
def slOf? : AV→Option ((t:Ty) × List t.T)
  | .pt (.one (.sl k xs))=>some ⟨k,xs⟩
  | .pt (.one (.ow _ k xs))=>some ⟨k,xs⟩
  | _=>none
def baseOf? : AV→Option ((_:Ty) × Nat × (Nat→Cell))
  | .pt (.one (.sl k xs))=>some ⟨k,xs.length,fun i=>.ep k (xs.getD i k.z) 0⟩
  | .pt (.one (.ow _ k xs))=>some ⟨k,xs.length,fun i=>.ep k (xs.getD i k.z) 0⟩
  | .pt (.one (.ar l k n))=>some ⟨k,n,fun i=>.ae l k i 0⟩
  | _=>none
def abV (T:Tb) (tm:List AV):Option Operand→Option (Option Int)
  | none=>some none
  | some x=>((opd T.zc tm 0 x).bind intOf?).map some
def slC {γ:Type} (n:Int) (l h m:Option Int) (K:Option γ):Option γ:=match l,h,m with
  | none,none,none=>K
  | some l,none,none=>if 0≤l then (if l≤n then K else none) else none
  | none,some h,none=>if 0≤h then (if h≤n then K else none) else none
  | some l,some h,none=>if 0≤l then (if l≤h then (if h≤n then K else none) else none) else none
  | none,some h,some m=>if 0≤h then (if h≤m then (if m≤n then K else none) else none) else none
  | _,_,_=>none
def slL {α:Type} (xs:List α) (l h:Option Int):List α:=match l,h with
  | none,none=>xs
  | some l,none=>xs.drop l.toNat
  | none,some h=>xs.take h.toNat
  | some l,some h=>(xs.take h.toNat).drop l.toNat
def aan:List (Int × Int)→Int→Int
  | [],_=>0
  | (a,b) :: r,k=>if a=k then b else aan r k
def zU:List (Int × Int)→Int→Int→List (Int × Int)
  | [],k,v=>[(k,v)]
  | (a,b) :: r,k,v=>if a=k then (k,v) :: r else (a,b) :: zU r k v
def af8 (T:Tb) (tm:List AV) (c:Call):Option AV :=
  match c.callee,c.args.toList,c.argTypes.toList with
  | .builtin .len,[x],[t]=>match (opd T.zc tm 0 x).bind baseOf?,T.el t with
    | some ⟨k,n,_⟩,some _=>some (.pt (.one (.v (.int .i64 (n:Int)))))
    | _,_=>none
  | .builtin .max,[x,y],_=>(match opd T.zc tm 0 x,opd T.zc tm 0 y with
    | some (.pt (.one (.v (.int k a)))),some (.pt (.one (.v (.int _ b))))=>some (.pt (.one (.v (.int k (mx a b)))))
    | _,_=>none)
  | .builtin .min,[x,y],_=>(match opd T.zc tm 0 x,opd T.zc tm 0 y with
    | some (.pt (.one (.v (.int k a)))),some (.pt (.one (.v (.int _ b))))=>some (.pt (.one (.v (.int k (mn a b)))))
    | _,_=>none)
  | _,_,_=>none
def pO (T:Tb) (tm:List AV):List Operand→Option (List Nat)
  | []=>some []
  | x :: xs=>match opd T.zc tm 0 x,pO T tm xs with
    | some (.pt (.one (.bp l 0))),some ls=>some (l :: ls)
    | _,_=>none
def vR (T:Tb) (tm:List AV) (ps:List (Nat × Nat × TypeId)):List Cell→List (Nat × Operand)→Option (List Cell)
  | cs,[]=>some cs
  | cs,(i,x) :: r=>match ps[i]? with
    | some (off,n,ft)=>(match opd T.zc tm ft x with
      | some (.pt p)=>if p.cells.length=n∧off+n≤cs.length∧p.cells.all Cell.good=true then vR T tm ps (splice cs off p.cells) r else none
      | _=>none)
    | none=>none
def zV (T:Tb) (tm:List AV) (bx:List Bx):Op→Option AV
  | .convert s t x=>match opd T.zc tm 0 x,T.ik s,T.ik t with
    | some (.pt (.one (.v (.int _ n)))),some _,some k=>some (.pt (.one (.v (.int k (wr k n)))))
    | _,_,_=>none
  | .build t parts=>match T.zc t,T.st t with
    | some cs,some ps=>(vR T tm ps cs parts.toList).map fun cs=>.pt (.agg cs)
    | _,_=>none
  | .slice t x lo hi mx=>match (opd T.zc tm 0 x).bind slOf?,T.el t,abV T tm lo,abV T tm hi,abV T tm mx with
    | some ⟨k,xs⟩,some (_,k',_),some l,some h,some m=>if k=k' then slC (xs.length:Int) l h m (some (.pt (.one (.sl k (slL xs l h))))) else none
    | _,_,_,_,_=>none
  | .lookup t m x false=>match opd T.zc tm 0 m,opd T.zc tm 0 x,T.mp t with
    | some (.pt (.one (.mh l))),some (.pt (.one (.v (.int .i64 k)))),some _=>match bx[l]? with
      | some (.mi xs)=>some (.pt (.one (.v (.int .i64 (aan xs k)))))
      | _=>none
    | _,_,_=>none
  | .makeFunc (.func f) first caps=>if first.size=0 then (pO T tm caps.toList).map fun bs=>.pt (.one (.fn f bs)) else none
  | _=>none
def val (T:Tb) (tm:List AV) (bx:List Bx) (o:Oper):Option AV :=
  match o.op with
  | .move x | .assign x=>opd T.zc tm o.type x
  | .pick c a b=>match opd T.zc tm 0 c with
    | some (.pt (.one (.v (.bool t))))=>if t then opd T.zc tm o.type a else opd T.zc tm o.type b
    | _=>none
  | .load t x=>match opd T.zc tm 0 x,T.sh t with
    | some (.pt (.one (.bp l off))),some s=>match bx[l]? with
      | some (.box _ cs)=>(abU cs off s).map .pt
      | _=>none
    | some (.pt (.one (.ep k y off))),some s=>(abU (k.cells y) off s).map .pt
    | some (.pt (.one (.ae l k i off))),some s=>match bx[l]? with
      | some (.arr _ k' xs)=>if h:k'=k then (abU (k.cells ((h ▸ xs:List k.T).getD i k.z)) off s).map .pt else none
      | _=>none
    | _,_=>none
  | .fieldAddr t x f=>match opd T.zc tm 0 x,T.fo t f with
    | some (.pt (.one (.bp l off))),some d=>some (.pt (.one (.bp l (off+d))))
    | some (.pt (.one (.ep k y off))),some d=>some (.pt (.one (.ep k y (off+d))))
    | some (.pt (.one (.ae l k i off))),some d=>some (.pt (.one (.ae l k i (off+d))))
    | _,_=>none
  | .indexAddr t x i=>match (opd T.zc tm 0 x).bind baseOf?,(opd T.zc tm 0 i).bind intOf?,T.el t with
    | some ⟨k,n,f⟩,some j,some (_,k',_)=>if k=k' then (if 0≤j then (if j<(n:Int) then some (.pt (.one (f j.toNat))) else none) else none) else none
    | _,_,_=>none
  | .extract x i=>match opd T.zc tm 0 x with
    | some (.tup ps)=>(ps[i]?).map .pt
    | _=>none
  | .binOp op t x y _=>match opd T.zc tm 0 x,opd T.zc tm 0 y with
    | some (.pt (.one (.v u))),some (.pt (.one (.v v)))=>(zT T t op u v).map fun r=>.pt (.one (.v r))
    | some (.pt (.agg [.v (.int .i64 a0),.v (.int .i64 a1)])),some (.pt (.agg [.v (.int .i64 b0),.v (.int .i64 b1)]))=>if T.e2 t=true then (match op with
      | .eql=>some (.pt (.one (.v (.bool (a0==b0&&a1==b1)))))
      | .neq=>some (.pt (.one (.v (.bool (!(a0==b0&&a1==b1))))))
      | _=>none) else none
    | _,_=>none
  | .unOp op _ x=>match opd T.zc tm 0 x with
    | some (.pt (.one (.v u)))=>(unV op u).map fun r=>.pt (.one (.v r))
    | _=>none
  | .call c=>af8 T tm c
  | op=>zV T tm bx op
end
end Go.Proofs.YtcomnjodjijcmaaGreat.M
namespace Go.Proofs.YtcomnjodjijcmaaGreat.M
noncomputable section
set_option linter.unusedVariables false
set_option linter.unusedSimpArgs false
open Go.RowKit Go.Proofs.YtcomnjodjijcmaaGreatW.dz Go.Proofs.YtcomnjodjijcmaaGreatW.dX Go.Proofs.YtcomnjodjijcmaaGreatW.eD
section
variable {P:Program} {T:Tb} {nb:Nat} {g:Gh} {W:World} {fr:Nat} {σ:St} {a:Act}
theorem Rel.tmp (h:Rel fr g W σ a.tmps) {t:Nat} {x:AV} (hx:σ.tm[t]? = some x):AVR σ.bx.length g W fr t x (a.eval (.tmp t)):=by
  have hlt:t<a.tmps.size:=by rw [← h.fr.1];exact (List.getElem?_eq_some_iff.1 hx).1
  have e:a.tmps[t]? = some (a.eval (.tmp t)):=by simp [Act.eval,hlt]
  exact h.fr.2 t x _ hx e
theorem CR.nil {nb:Nat} {g:Gh} {W:World} {ℓ:Loc} {e:TypeId} {k:Ty}:CR nb g W ℓ (.ow e k []) (.slice none 0 0) :=
  ⟨⟨none,0,rfl,Nat.le_refl _,fun i x hx=>by simp at hx⟩,⟨[],World.ownsRow_nil _ _ _ _⟩,fun b hb=>by simp [Value.ownBlock] at hb⟩
theorem adV {zc:TypeId→Option (List Cell)} {ty:TypeId} {v:Value} {y:AV} (hy:zS zc ty v=some y) (fr' i':Nat):AVR nb g W fr' i' y v:=by
  unfold zS at hy;split at hy
  · split at hy
    · cases hy
      exact CR.nil (nb:=nb)
    · cases hy
  · cases hy
  · cases hy
  · rename_i x' h1 h2 h3
    cases hy
    refine ⟨rfl,?_⟩;cases v <;> first | rfl | exact (h2 _ rfl).elim | exact (h3 _ rfl).elim
theorem fQ (h:Rel fr g W σ a.tmps) {ty:TypeId} {x:Operand} {y:AV} (hy:opd T.zc σ.tm ty x=some y) (fr' i':Nat):AVR σ.bx.length g W fr' i' y (a.eval x):=by
  cases x with
  | tmp t =>
    obtain ⟨z,hz,rfl⟩:=Option.map_eq_some_iff.mp hy;exact (h.tmp hz).un
  | const v=>exact adV hy fr' i'
  | func f =>
    cases hy
    exact ⟨fun l hl=>by simp at hl,rfl⟩
  | global q=>cases hy
theorem vS {loc:Nat→Loc} {cs:List Cell} {vs:List Value} {off:Nat} {s:Bool × Nat} {p:Pt} (hc:CsR nb g W loc cs vs) (hp:abU cs off s=some p) :
    ∃ v,(s.1=false→vs[off]? = some v)∧(s.1=true→off+s.2≤vs.length∧v=.agg ((vs.drop off).take s.2).toArray)∧∀ loc',PtR nb g W loc' p v:=by
  obtain ⟨ag,n⟩:=s;cases ag
  · simp only [abU] at hp
    obtain ⟨c,h1,rfl⟩:=Option.map_eq_some_iff.mp hp;obtain ⟨v,hv⟩:∃ v,vs[off]? = some v:=⟨vs[off]'(by rw [← hc.1];exact (List.getElem?_eq_some_iff.1 h1).1),by simp⟩;exact ⟨v,fun _=>hv,⟨(fun h=>by simp at h),fun loc'=>(hc.2 off c v h1 hv).un⟩⟩
  · simp only [abU] at hp
    split at hp
    · rename_i hle
      cases hp
      refine ⟨_,(fun h=>by simp at h),fun _=>⟨by rw [← hc.1];exact hle,rfl⟩,fun loc'=>⟨_,rfl,?_⟩⟩;have:CsR nb g W (fun k=>loc (off+k)) ((cs.drop off).take n) ((vs.drop off).take n):=by
        refine ⟨by simp [hc.1],fun k c v h1 h2 => ?_⟩;rw [List.getElem?_take] at h1 h2;split at h1
        · rename_i hk
          rw [if_pos hk,List.getElem?_drop] at h2;rw [List.getElem?_drop] at h1;exact hc.2 _ c v h1 h2
        · cases h1
      exact this.un
    · cases hp
theorem jO {vs:Array Value} {b:Nat} {t:TypeId} (hh:W.heap[b]? = some (.cells vs t (0,0))) (j:Nat) (v:Value) (hv:vs.toList[j]? = some v):W.cell? ⟨b,j,none⟩=some v:=by
  simp only [World.cell?,hh];simpa using hv
theorem jA (hT:lX P T) {t:TypeId} {n:Nat} (hs:T.sh t=some (false,n)) {b o:Nat} {v:Value} (hc:W.cell? ⟨b,o,none⟩=some v) :
    (Instr.loadAt t (.pointer (some ⟨b,o,none⟩))).run P W=.ok v W:=by
  obtain ⟨⟨d,hu,hd⟩,hi⟩:=hT.sh t _ _ hs;have hagg:(isAgg t).run P W=.ok false W:=by
    unfold isAgg;rw [Sem.run_bind,run_underlying hu W];cases d <;> simp_all
  simp [Instr.loadAt,Instr.sureAddr,loadVar,Sem.run_bind,hagg,hc]
theorem jB (hT:lX P T) {t:TypeId} {n:Nat} (hs:T.sh t=some (true,n)) {b o:Nat} {cs:List Value} (hl:cs.length=n) (hc:W.rangeAt b o cs) :
    (Instr.loadAt t (.pointer (some ⟨b,o,none⟩))).run P W=.ok (.agg cs.toArray) W:=by
  obtain ⟨⟨d,hu,hd⟩,hi⟩:=hT.sh t _ _ hs;exact run_loadAt_mid W b o t cs d hc hu hd (by rw [hi,hl])
theorem Ty.cells_ok (loc:Nat→Loc):(t:Ty)→(x:t.T)→(vs:List Value)→t.R (jW g W) x vs→CsR nb g W loc (t.cells x) vs:=by
  have one:∀ (c:Cell) (v:Value),CR nb g W (loc 0) c v→CsR nb g W loc [c] [v]:=fun c v h=>⟨rfl,fun k c' v' h1 h2=>by
    cases k with
    | zero=>simp at h1 h2;subst h1;subst h2;exact h
    | succ k=>simp at h1⟩
  intro t x vs h;cases t with
  | int k=>have h:vs=_:=h;subst h;exact one _ _ ⟨rfl,rfl⟩
  | bool=>have h:vs=_:=h;subst h;exact one _ _ ⟨rfl,rfl⟩
  | str=>have h:vs=_:=h;subst h;exact one _ _ ⟨rfl,rfl⟩
  | sp =>
    have h:vs=_:=h;subst h;refine ⟨rfl,fun k c v h1 h2 => ?_⟩;rcases k with _ | _ | k
    · simp [Ty.cells] at h1 h2;subst h1;subst h2;exact ⟨rfl,rfl⟩
    · simp [Ty.cells] at h1 h2;subst h1;subst h2;exact ⟨rfl,rfl⟩
    · simp [Ty.cells] at h1
  | gr =>
    obtain ⟨u,h,hs⟩:=h;subst h;refine ⟨rfl,fun k c v h1 h2 => ?_⟩;rcases k with _ | _ | k
    · simp [Ty.cells] at h1 h2;subst h1;subst h2;exact ⟨rfl,rfl⟩
    · simp [Ty.cells] at h1 h2;subst h1;subst h2;exact hs
    · simp [Ty.cells] at h1
  | fm =>
    obtain ⟨u,w,h,hs,ht⟩:=h;subst h;refine ⟨rfl,fun k c v h1 h2 => ?_⟩;rcases k with _ | _ | _ | _ | k
    · simp [Ty.cells] at h1 h2;subst h1;subst h2;exact ⟨rfl,rfl⟩
    · simp [Ty.cells] at h1 h2;subst h1;subst h2;exact ⟨rfl,rfl⟩
    · simp [Ty.cells] at h1 h2;subst h1;subst h2;exact hs
    · simp [Ty.cells] at h1 h2;subst h1;subst h2;exact ht
    · simp [Ty.cells] at h1
  | ff =>
    have h:vs=_:=h;subst h;refine ⟨rfl,fun k c v h1 h2 => ?_⟩;rcases k with _ | _ | k
    · simp [Ty.cells] at h1 h2;subst h1;subst h2;exact ⟨fun l hl=>(by cases hl),rfl⟩
    · simp [Ty.cells] at h1 h2;subst h1;subst h2;exact ⟨fun l hl=>(by cases hl),rfl⟩
    · simp [Ty.cells] at h1
  | pr =>
    obtain ⟨w,u,h,hs,ht⟩:=h;subst h;refine ⟨rfl,fun k c v h1 h2 => ?_⟩;rcases k with _ | _ | k
    · simp [Ty.cells] at h1 h2;subst h1;subst h2;exact hs
    · simp [Ty.cells] at h1 h2;subst h1;subst h2;exact ht
    · simp [Ty.cells] at h1
  | sl e t =>
    obtain ⟨u,h,hs⟩:=h;subst h;exact one _ _ hs
theorem vT {fr i:Nat} {x:AV} {u:Value} {k:Ty} {xs:List k.T} (h:AVR nb g W fr i x u) (hx:slOf? x=some ⟨k,xs⟩):SlR (k.R (jW g W)) k.sz (jW g W) xs u:=by
  unfold slOf? at hx;split at hx
  · cases hx;exact h
  · cases hx;exact h.1
  · cases hx
theorem uj {fr i:Nat} {x:AV} {u:Value} {k:Ty} {n:Nat} {f:Nat→Cell} (h:AVR nb g W fr i x u) (hx:baseOf? x=some ⟨k,n,f⟩):∃ A c,u=.slice A n c∧n≤c∧∀ j,j<n→∃ b o,A=some ⟨b,o,none⟩∧∀ ℓ,CR nb g W ℓ (f j) (.pointer (some ⟨b,o+j*k.sz,none⟩)):=by
  have key:∀ {xs:List k.T} {A:Option Addr},abT (k.R (jW g W)) k.sz (jW g W) A xs→∀ j,j<xs.length→∃ b o,A=some ⟨b,o,none⟩∧∀ ℓ,CR nb g W ℓ (.ep k (xs.getD j k.z) 0) (.pointer (some ⟨b,o+j*k.sz,none⟩)):=fun {xs A} hr j hj=>by
    obtain ⟨b,o,vs,e,hR,hl,hc⟩:=hr j _ (List.getElem?_eq_getElem hj);refine ⟨b,o,e,fun ℓ=>⟨b,o+j*k.sz,vs,rfl,?_,fun q v hq => ?_⟩⟩
    · rw [List.getD_eq_getElem?_getD,List.getElem?_eq_getElem hj];exact hR
    · rw [Nat.add_assoc];exact hc q v hq
  unfold baseOf? at hx;split at hx
  · cases hx
    obtain ⟨A,c,e,hle,hr⟩:=h;exact ⟨A,c,e,hle,key hr⟩
  · cases hx
    obtain ⟨⟨A,c,e,hle,hr⟩,_⟩:=h;exact ⟨A,c,e,hle,key hr⟩
  · rename_i l k' n'
    cases hx
    obtain ⟨hl,e,A,c,e2,hle,hA⟩:=h;refine ⟨A,c,e.trans e2,hle,fun j hj => ?_⟩;obtain ⟨b,rfl⟩:=hA (by omega);exact ⟨b,0,rfl,fun ℓ=>⟨hl,b,n,c,e2,hj,by rw [Nat.zero_add,Nat.add_zero]⟩⟩
  · cases hx
theorem vU (h:Rel fr g W σ a.tmps) {x:Option Operand} {r:Option Int} (hx:abV T σ.tm x=some r):(x=none∧r=none)∨∃ y k n,x=some y∧r=some n∧a.eval y=.int k n:=by
  cases x with
  | none=>cases hx;exact .inl ⟨rfl,rfl⟩
  | some y =>
    obtain ⟨n,hn,rfl⟩:=Option.map_eq_some_iff.mp hx;obtain ⟨z,hz,hz2⟩:=Option.bind_eq_some_iff.mp hn;unfold intOf? at hz2;split at hz2
    · cases hz2
      exact .inr ⟨y,_,_,rfl,rfl,(fQ h hz 0 0).1⟩
    · cases hz2
theorem af9 {k:Ty} {xs:List k.T} {A:Option Addr} {c:Nat} {l h:Nat} (hr:abT (k.R (jW g W)) k.sz (jW g W) A xs) (hl:l≤h) (hh:h≤xs.length) {m:Nat} (hm:h≤m):SlR (k.R (jW g W)) k.sz (jW g W) ((xs.take h).drop l) (.slice (if m=l then A else A.map (·.add (l*k.sz))) (h - l) (m - l)):=by
  have hlen:((xs.take h).drop l).length=h - l:=by simp;omega
  refine ⟨_,m - l,by rw [hlen],by rw [hlen];omega,fun i x hx => ?_⟩;have hi:i<h - l:=by rw [← hlen];exact (List.getElem?_eq_some_iff.1 hx).1
  rw [List.getElem?_drop,List.getElem?_take,if_pos (by omega)] at hx;obtain ⟨b,o,vs,rfl,hR,hL,hC⟩:=hr _ x hx;rw [if_neg (by omega)];refine ⟨b,o+l*k.sz,vs,by simp [Addr.add_mid],hR,hL,fun j v hv => ?_⟩;have:=hC j v hv;rw [Nat.add_mul] at this;rw [show o+l*k.sz+(i*k.sz+j)=o+(l*k.sz+i*k.sz+j) by omega];exact this
theorem nS {kd:IntKind} {k:Int}:∀ {es:List MapEntry} {xs:List (Int × Int)} (i:Nat),es.map (fun e=>(e.key,e.val))=xs.map (fun p=>(Value.int .i64 p.1,Value.int .i64 p.2)) →
    (Instr.findNow (.int kd) (.int .i64 k) es i=some none∧(∀ p∈xs,p.1≠k)∧aan xs k=0)∨∃ j e,Instr.findNow (.int kd) (.int .i64 k) es i=some (some (i+j,.int .i64 (aan xs k)))∧es[j]? = some e∧e.key=.int .i64 k∧∀ v,zU xs k v=xs.set j (k,v)
  | [],[],i,_=>.inl ⟨rfl,fun p hp=>by simp at hp,rfl⟩
  | [],_ :: _,i,h=>by simp at h
  | _ :: _,[],i,h=>by simp at h
  | e :: es,(a,b) :: xs,i,h=>by
    simp only [List.map_cons,List.cons.injEq,Prod.mk.injEq] at h;obtain ⟨⟨h1,h2⟩,h3⟩:=h;by_cases hk:a=k
    · subst hk
      refine .inr ⟨0,e,?_,rfl,h1,fun v => ?_⟩
      · simp [Instr.findNow,Instr.sameNow,h1,h2,aan]
      · simp [zU]
    · have hk':(k==a)=false:=by simpa using Ne.symm hk
      rcases nS (kd:=kd) (k:=k) (i+1) h3 with ⟨q1,q2,q3⟩ | ⟨j,e',q1,q2,q3,q4⟩
      · refine .inl ⟨?_,fun p hp => ?_,?_⟩
        · simp [Instr.findNow,Instr.sameNow,h1,hk',q1]
        · rcases List.mem_cons.1 hp with rfl | hp
          · exact hk
          · exact q2 p hp
        · simp [aan,hk,q3]
      · refine .inr ⟨j+1,e',?_,by simpa using q2,q3,fun v => ?_⟩
        · simp only [Instr.findNow,Instr.sameNow,h1,if_true,hk',q1,aan,if_neg hk]
          rw [show i+1+j=i+(j+1) by omega]
        · simp [zU,hk,q4 v]
theorem j4 {b:Nat} {es:Array MapEntry} {ck:Nat} (h:W.heap[b]? = some (.map es ck)):(getObj b).run P W=.ok (.map es ck) W:=by
  simp [getObj,Sem.run,h]
theorem xq {op:BinOp} {u v r:Value} (h:adn op u v=some r):r.oneCell'=true:=by
  unfold adn at h;split at h
  · split at h
    · cases op <;> simp only at h <;> first | (cases h;done) | (cases h;rfl) | (split at h <;> first | (cases h;done) | (cases h;rfl))
    · cases h
  · cases op <;> simp only at h <;> first | (cases h;done) | (cases h;rfl)
  · cases h
theorem ab9 {t:TypeId} {op:BinOp} {u v r:Value} (h:zT T t op u v=some r):r.oneCell'=true:=by
  unfold zT at h;split at h
  · split at h
    · cases op <;> simp only at h <;> first | (cases h;done) | (cases h;rfl)
    · cases h
  · split at h
    all_goals first
      | exact xq h
      | (split at h <;> first | (cases h;done) | (cases h;rfl))
  · exact xq h
theorem adW {op:UnOp} {u r:Value} (h:unV op u=some r):r.oneCell'=true:=by
  unfold unV at h;split at h <;> (try split at h) <;> first | (cases h;done) | (cases h;rfl)
theorem aao {op:BinOp} {t:TypeId} {u v r:Value} (h:adn op u v=some r) (x y:Operand) (ty:TypeId) (o:Oper) (ho:o.op=.binOp op t x y ty) (ρ:Operand→Value) (hx:ρ x=u) (hy:ρ y=v) :
    (execOp ρ o).run P W=.ok (.value r) W:=by
  unfold execOp;rw [ho];subst hx;subst hy;unfold adn at h;split at h
  · rename_i k a k' b hu hv
    split at h
    case isFalse=>cases h
    rename_i hk
    subst hk;have e1:∀ W:World,(eqGuard op t x y (.int k a) (.int k b)).run P W=.ok () W:=by
      intro W;unfold eqGuard;split <;> rfl
    simp only [hu,hv,Sem.run_bind,e1,Result.andThen_ok,binOp];cases op <;> simp only [if_pos,reduceCtorEq,not_true_eq_false,not_false_eq_true,ite_false,ite_true,ne_eq] at h ⊢;all_goals first
      | (cases h;done)
      | (cases h;simp [Op.intArith,ab8];done)
      | (cases h;simp [Op.intCmp];done)
      | (split at h
         · cases h
         · rename_i hb
           cases h
           simp [Op.intDiv,hb,ab8])
      | (cases h;simp [Op.intCmp,Bool.beq_eq_decide_eq];done)
      | (cases h;simp [Op.intCmp,bne,Bool.beq_eq_decide_eq];done)
  · rename_i a b hu hv
    have e1:∀ W:World,(eqGuard op t x y (.string a) (.string b)).run P W=.ok () W:=by
      intro W;unfold eqGuard;split <;> rfl
    simp only [hu,hv,Sem.run_bind,e1,Result.andThen_ok,binOp];cases op <;> simp only at h;all_goals first
      | (cases h;done)
      | (cases h;simp [Op.stringOp];done)
  · cases h
theorem adX (hT:lX P T) {op:BinOp} {t:TypeId} {u v r:Value} (h:zT T t op u v=some r) (x y:Operand) (ty:TypeId) (o:Oper) (ho:o.op=.binOp op t x y ty) (ρ:Operand→Value) (hx:ρ x=u) (hy:ρ y=v) :
    (execOp ρ o).run P W=.ok (.value r) W:=by
  have h0:=h;unfold zT at h;split at h
  · rename_i a b
    split at h
    case isFalse=>cases h
    rename_i hb
    have hu:=hT.bl t hb;have e1:∀ W:World,(eqGuard op t x y (.bool a) (.bool b)).run P W=.ok () W:=by
      intro W;unfold eqGuard;split <;> rfl
    have e2:∀ W:World,(Op.equal t (.bool a) (.bool b)).run P W=.ok (a==b) W:=by
      intro W;show (Op.equalIn (9999+1) t (.bool a) (.bool b)).run P W=_;unfold Op.equalIn;simp [Sem.run_bind,run_underlying hu]
    unfold execOp;rw [ho];simp only [hx,hy,Sem.run_bind,e1,Result.andThen_ok,binOp];cases op <;> simp only at h <;> first
      | (cases h;done)
      | (cases h;simp [Sem.run_bind,e2])
  · rename_i k a k' b
    have e1:∀ W:World,(eqGuard op t x y (.int k a) (.int k' b)).run P W=.ok () W:=by
      intro W;unfold eqGuard;split <;> rfl
    split at h
    all_goals first
      | exact aao h x y ty o ho ρ hx hy
      | (split at h
         case isFalse=>cases h
         rename_i hk
         subst hk;cases h;unfold execOp;rw [ho];simp only [hx,hy,Sem.run_bind,e1,Result.andThen_ok,binOp];simp [Op.intBits])
      | (split at h
         case isTrue=>cases h
         rename_i hk
         cases h
         unfold execOp;rw [ho];simp only [hx,hy,Sem.run_bind,e1,Result.andThen_ok,binOp];simp [Op.shift,hk])
  · exact aao h x y ty o ho ρ hx hy
theorem uo (h:Rel fr g W σ a.tmps):∀ {xs:List Operand} {bs:List Nat},pO T σ.tm xs=some bs→(∀ l∈bs,l<σ.bx.length∧g.lv l)∧xs.map a.eval=bs.map fun l=>Value.pointer (some ⟨g.bx l,0,none⟩)
  | [],bs,hb=>by cases hb;exact ⟨(fun l hl=>by cases hl),rfl⟩
  | x :: xs,bs,hb=>by
    simp only [pO] at hb;split at hb
    case h_2=>cases hb
    rename_i l ls h1 h2
    cases hb
    obtain ⟨q1,q2⟩:=uo h h2;have e:(l<σ.bx.length∧g.lv l)∧a.eval x=.pointer (some ⟨g.bx l,0,none⟩):=fQ h h1 0 0;exact ⟨fun l' hl=>(List.mem_cons.1 hl).elim (fun e'=>by rw [e'];exact e.1) (q1 l'),by simp [e.2,q2]⟩
theorem pQ:∀ (us:List Value) (j0 off:Nat) (cs:Array Value),off+j0+us.length≤cs.size →
    ((us.zipIdx j0).foldl (fun (cs:Array Value) (x:Value × Nat)=>cs.setIfInBounds (off+x.2) x.1) cs).size=cs.size∧∀ k,k<cs.size→((us.zipIdx j0).foldl (fun (cs:Array Value) (x:Value × Nat)=>cs.setIfInBounds (off+x.2) x.1) cs)[k]? = if off+j0≤k∧k<off+j0+us.length then us[k - (off+j0)]? else cs[k]?
  | [],j0,off,cs,h=>⟨rfl,fun k hk=>(if_neg (by intro hh;simp at hh;omega)).symm⟩
  | u :: us,j0,off,cs,h=>by
    simp only [List.length_cons] at h;obtain ⟨q1,q2⟩:=pQ us (j0+1) off (cs.setIfInBounds (off+j0) u) (by simp;omega);simp only [List.zipIdx_cons,List.foldl_cons];refine ⟨by rw [q1];simp,fun k hk => ?_⟩;rw [q2 k (by simpa using hk)];by_cases e:k=off+j0
    · subst e
      rw [if_neg (by omega),if_pos (by simp)];simp [hk]
    · by_cases e2:off+(j0+1)≤k∧k<off+(j0+1)+us.length
      · rw [if_pos e2,if_pos (by simp;omega),show k - (off+j0)=(k - (off+(j0+1)))+1 by omega,List.getElem?_cons_succ]
      · rw [if_neg e2,if_neg (by simp;omega),Array.getElem?_setIfInBounds,if_neg (by omega)]
theorem CsR.splice {loc:Nat→Loc} {cs ps:List Cell} {vs us vs':List Value} {off:Nat} (h:CsR nb g W loc cs vs) (hp:∀ loc,CsR nb g W loc ps us) (hle:off+ps.length≤cs.length) (hl:vs'.length=vs.length) (hg:∀ k,k<vs.length→vs'[k]? = if off≤k∧k<off+us.length then us[k - off]? else vs[k]?):CsR nb g W loc (M.splice cs off ps) vs':=by
  refine ⟨by rw [jG hle,hl];exact h.1,fun k c v hc hv => ?_⟩;have hk:k<vs.length:=by rw [← hl];exact (List.getElem?_eq_some_iff.1 hv).1
  rw [hg k hk,← (hp loc).1] at hv;rw [jN hle] at hc;split at hc
  · rename_i hh
    rw [if_pos hh] at hv;have this:CR nb g W (loc (off+(k - off))) c v:=(hp (fun j=>loc (off+j))).2 (k - off) c v hc hv;rw [show off+(k - off)=k by omega] at this;exact this
  · rename_i hh
    rw [if_neg hh] at hv;exact h.2 k c v hc hv
theorem CR.any {ℓ:Loc} {k:Nat}:{c:Cell}→{u:Value}→CR nb g W (.tm 0 0 0 k) c u→CR nb g W (.tm 1 0 0 k) c u→CR nb g W ℓ c u
  | .v _,_,h,_=>h
  | .sl _ _,_,h,_=>h
  | .ow _ _ _,_,⟨h1,h2,h3⟩,⟨_,_,h4⟩=>⟨h1,h2,fun b hb=>by
    have e1:=(h3 b hb).1;rw [(h4 b hb).1] at e1;cases e1⟩
  | .mu _ _ _,_,⟨h1,h2,h3⟩,⟨_,_,h4⟩=>⟨h1,h2,fun b hb=>by
    have e1:=(h3 b hb).1;rw [(h4 b hb).1] at e1;cases e1⟩
  | .ar _ _ _,_,h,_=>h
  | .ae _ _ _ _,_,h,_=>h
  | .mh _,_,h,_=>h
  | .bp _ _,_,h,_=>h
  | .ep _ _ _,_,h,_=>h
  | .fn _ _,_,h,_=>h
  | .yl _,_,h,_=>h
  | .ud,_,h,_=>h
  | .no,_,h,_=>h
theorem vV {p:Pt} {u:Value} (h:∀ fr i,PtR nb g W (.tm fr i 0) p u) (loc:Nat→Loc):PtR nb g W loc p u:=by
  cases p with
  | one c=>exact CR.any (h 0 0) (h 1 0)
  | agg cs =>
    obtain ⟨vs,e,r⟩:=h 0 0;obtain ⟨vs',e',r'⟩:=h 1 0;rw [e] at e';cases e';exact ⟨vs,e,r.1,fun k c v hc hv=>CR.any (r.2 k c v hc hv) (r'.2 k c v hc hv)⟩
theorem xu (h:Rel fr g W σ a.tmps) {ps:List (Nat × Nat × TypeId)}:∀ {parts:List (Nat × Operand)} {cs cs':List Cell} {vs:Array Value},vR T σ.tm ps cs parts=some cs'→(∀ loc,CsR σ.bx.length g W loc cs vs.toList) →
    ∃ vs':Array Value,Instr.fill ((ps.map fun p=>(p.1,p.2.1)).toArray[·]?) vs (parts.map fun p=>(p.1,a.eval p.2))=some vs'∧∀ loc,CsR σ.bx.length g W loc cs' vs'.toList
  | [],cs,cs',vs,hf,hc=>by cases hf;exact ⟨vs,rfl,hc⟩
  | (i,x) :: r,cs,cs',vs,hf,hc=>by
    simp only [vR] at hf;split at hf
    case h_2=>cases hf
    rename_i off n ft hps
    split at hf
    case h_2=>cases hf
    rename_i p hp
    split at hf
    case isFalse=>cases hf
    rename_i hcond
    obtain ⟨c1,c2,c3⟩:=hcond;have hpr:∀ loc,CsR σ.bx.length g W loc p.cells (a.eval x).cells.toList:=fun loc=>by
      have:=fQ h hp 0 0;have h1:PtR σ.bx.length g W (.tm 0 0 0) p (a.eval x):=this;exact PtR.cells (loc:=loc) (vV (fun fr' i'=>fQ h hp fr' i') loc) c3
    have hsz:(a.eval x).cells.size=n:=by have:=(hpr (.tm 0 0 0)).1;rw [c1] at this;simpa using this.symm
    have hvs:vs.size=cs.length:=by have:=(hc (.tm 0 0 0)).1;simpa using this.symm
    have aa:=pQ (a.eval x).cells.toList 0 off vs (by simp [hsz,hvs];omega);simp only [Nat.add_zero] at aa;obtain ⟨vs',q1,q2⟩:=xu h (vs:=((a.eval x).cells.toList.zipIdx 0).foldl (fun (cs:Array Value) (x:Value × Nat)=>cs.setIfInBounds (off+x.2) x.1) vs) hf (fun loc=>CsR.splice (hc loc) hpr (by rw [c1];exact c2) (by simpa using aa.1) (fun k hk=>by simpa using aa.2 k (by simpa using hk)));refine ⟨vs',?_,q2⟩;simp only [List.map_cons,Instr.fill];have e1:(ps.map fun p=>(p.1,p.2.1)).toArray[i]? = some (off,n):=by simp [hps]
    simp only [e1];rw [if_neg (by simp [hsz];omega)];rw [← q1];congr 1;rw [← Array.foldl_toList,Array.toList_zipIdx]
theorem xw {fr i:Nat} {a0 a1:Int} {v:Value} (h:AVR nb g W fr i (.pt (.agg [.v (.int .i64 a0),.v (.int .i64 a1)])) v):v=.agg #[.int .i64 a0,.int .i64 a1]:=by
  obtain ⟨vs,e,hl,hr⟩:=h;subst e;obtain ⟨vs⟩:=vs
  match vs,hl,hr with
  | [u,w],_,hr =>
    have h0:=(hr 0 _ u rfl rfl).1;have h1:=(hr 1 _ w rfl rfl).1;rw [h0,h1]
theorem val_ok (hT:lX P T) (h:Rel fr g W σ a.tmps) {o:Oper} {x:AV} (hv:val T σ.tm σ.bx o=some x) :
    ∃ v,(execOp a.eval o).run P W=.ok (.value v) W∧∀ fr' i',AVR σ.bx.length g W fr' i' x v:=by
  unfold val at hv;split at hv
  · rename_i y ho
    exact ⟨_,by unfold execOp;rw [ho];rfl,fun fr' i'=>fQ h hv fr' i'⟩
  · rename_i y ho
    exact ⟨_,by unfold execOp;rw [ho];rfl,fun fr' i'=>fQ h hv fr' i'⟩
  · rename_i c y z ho
    split at hv
    · rename_i t hc
      have e:a.eval c=.bool t:=(fQ h hc 0 0).1;cases t
      · exact ⟨_,by unfold execOp;rw [ho];simp [e,asBool],fun fr' i'=>fQ h hv fr' i'⟩
      · exact ⟨_,by unfold execOp;rw [ho];simp [e,asBool],fun fr' i'=>fQ h hv fr' i'⟩
    · cases hv
  · rename_i t y ho
    have e:∀ v,(Instr.loadAt t (a.eval y)).run P W=.ok v W→(execOp a.eval o).run P W=.ok (.value v) W:=fun v hr=>by
      unfold execOp;rw [ho];simp [Sem.run_bind,hr]
    split at hv
    · rename_i l off s hy hs
      split at hv
      · rename_i t' cs hb
        obtain ⟨p,hp,rfl⟩:=Option.map_eq_some_iff.mp hv;obtain ⟨hl,ey⟩:(l<σ.bx.length∧g.lv l)∧a.eval y=.pointer (some ⟨g.bx l,off,none⟩):=fQ h hy 0 0;obtain ⟨_,_,_,vs,hh,hcs,_⟩:=h.bx l _ hb;obtain ⟨v,h1,h2,h3⟩:=vS hcs hp;refine ⟨v,e v ?_,fun fr' i'=>h3 _⟩;rw [ey];obtain ⟨ag,n⟩:=s;cases ag
        · exact jA hT hs (jO hh off v (h1 rfl))
        · obtain ⟨hle,rfl⟩:=h2 rfl
          refine jB hT hs (by rw [List.length_take,List.length_drop];simp only at hle;omega) (fun j v hv => ?_);rw [List.getElem?_take] at hv;split at hv
          · rw [List.getElem?_drop] at hv
            exact jO hh _ v hv
          · cases hv
      · cases hv
    · rename_i k z off s hy hs
      obtain ⟨p,hp,rfl⟩:=Option.map_eq_some_iff.mp hv;obtain ⟨b,o',vs,ey,hR,hc⟩:=fQ h hy 0 0;obtain ⟨v,h1,h2,h3⟩:=vS (Ty.cells_ok (nb:=σ.bx.length) (fun k=>.tm 0 0 0 k) k z vs hR) hp;refine ⟨v,e v ?_,fun fr' i'=>h3 _⟩;rw [ey];obtain ⟨ag,n⟩:=s;cases ag
      · exact jA hT hs (hc off v (h1 rfl)).1
      · obtain ⟨hle,rfl⟩:=h2 rfl
        refine jB hT hs (by rw [List.length_take,List.length_drop];simp only at hle;omega) (fun j v hv => ?_);rw [List.getElem?_take] at hv;split at hv
        · rw [List.getElem?_drop] at hv
          rw [Nat.add_assoc];exact (hc _ v hv).1
        · cases hv
    · rename_i l k i off s hy hs
      split at hv
      case h_2=>cases hv
      rename_i e0 k' xs hb
      split at hv
      case isFalse=>cases hv
      rename_i hk
      subst hk;obtain ⟨p,hp,rfl⟩:=Option.map_eq_some_iff.mp hv;obtain ⟨hl,b,n,c,aa,hi,ey⟩:=fQ h hy 0 0;obtain ⟨_,⟨A,c',e1,hle,hrow⟩,_⟩:=h.bx l _ hb;rw [aa] at e1;simp only [Value.slice.injEq] at e1;obtain ⟨rfl,rfl,rfl⟩:=e1;obtain ⟨b',o',vs,e2,hR,hL,hC⟩:=hrow i _ (List.getElem?_eq_getElem hi);simp only [Option.some.injEq,Addr.mk.injEq,and_true] at e2;obtain ⟨rfl,rfl⟩:=e2;obtain ⟨v,h1,h2,h3⟩:=vS (Ty.cells_ok (nb:=σ.bx.length) (fun k=>.tm 0 0 0 k) k' _ vs (show k'.R (jW g W) (xs.getD i k'.z) vs by rw [List.getD_eq_getElem?_getD,List.getElem?_eq_getElem hi];exact hR)) hp;refine ⟨v,e v ?_,fun fr' i'=>h3 _⟩;rw [ey];obtain ⟨ag,n'⟩:=s;cases ag
      · refine jA hT hs ?_
        have:=hC off v (h1 rfl);rwa [Nat.zero_add] at this
      · obtain ⟨hle',rfl⟩:=h2 rfl
        refine jB hT hs (by rw [List.length_take,List.length_drop];simp only at hle';omega) (fun j v hv => ?_);rw [List.getElem?_take] at hv;split at hv
        · rw [List.getElem?_drop] at hv
          have:=hC _ v hv;rw [Nat.zero_add] at this;rw [Nat.add_assoc];exact this
        · cases hv
    · cases hv
  · rename_i t y f ho
    have e:∀ b off d,T.fo t f=some d→a.eval y=.pointer (some ⟨b,off,none⟩)→(execOp a.eval o).run P W=.ok (.value (.pointer (some ⟨b,off+d,none⟩))) W:=fun b off d hd ey=>by
      obtain ⟨fs,fd,i,hu,hf,rfl,hi,hz⟩:=hT.fo t f d hd;unfold execOp;rw [ho];simp [Instr.fieldAt,Sem.run_bind,run_underlying hu,hf,ey,Instr.sureAddr,fieldPlace,sizeOf,typeInfo,hi,hz,Addr.add_mid]
    split at hv
    · rename_i l off d hy hd
      cases hv
      obtain ⟨hl,ey⟩:(l<σ.bx.length∧g.lv l)∧a.eval y=.pointer (some ⟨g.bx l,off,none⟩):=fQ h hy 0 0;exact ⟨_,e _ _ _ hd ey,fun _ _=>⟨hl,rfl⟩⟩
    · rename_i k z off d hy hd
      cases hv
      obtain ⟨b,o',vs,ey,hR,hc⟩:=fQ h hy 0 0;exact ⟨_,e _ _ _ hd ey,fun _ _=>⟨b,o',vs,by rw [Nat.add_assoc],hR,hc⟩⟩
    · rename_i l k i off d hy hd
      cases hv
      obtain ⟨hl,b,n,c,aa,hi,ey⟩:=fQ h hy 0 0;exact ⟨_,e _ _ _ hd ey,fun _ _=>⟨hl,b,n,c,aa,hi,by rw [Nat.add_assoc]⟩⟩
    · cases hv
  · rename_i t y i ho
    split at hv
    · rename_i k n f j e' k' by' hy hj he
      split at hv
      case isFalse=>cases hv
      rename_i hk
      subst hk;split at hv
      case isFalse=>cases hv
      rename_i h0
      split at hv
      case isFalse=>cases hv
      rename_i h1
      cases hv
      obtain ⟨y',hy1,hy2⟩:=Option.bind_eq_some_iff.mp hy;obtain ⟨j',hj1,hj2⟩:=Option.bind_eq_some_iff.mp hj;obtain ⟨A,c,ey,hle,hrow⟩:=uj (fQ h hy1 0 0) hy2;obtain ⟨kk,ej⟩:∃ kk,a.eval i=.int kk j:=by
        unfold intOf? at hj2;split at hj2
        · cases hj2
          exact ⟨_,(fQ h hj1 0 0).1⟩
        · cases hj2
      have hlt:j.toNat<n:=by omega
      obtain ⟨b,o',rfl,hcr⟩:=hrow j.toNat hlt;obtain ⟨hu,ii,z,hi,_,hsz,_⟩:=hT.el t _ _ _ he;refine ⟨.pointer (some ⟨b,o'+j.toNat*k.sz,none⟩),?_,fun _ _=>hcr _⟩;unfold execOp;rw [ho];simp [Instr.indexAt,Sem.run_bind,ej,asIntOf,run_underlying hu,ey,h0,h1,sizeOf,typeInfo,hi,hsz,Addr.add_mid]
    · cases hv
  · rename_i y i ho
    split at hv
    · rename_i ps hy
      obtain ⟨p,hp,rfl⟩:=Option.map_eq_some_iff.mp hv;obtain ⟨vs,ey,hl,hr⟩:=fQ h hy 0 0;have hlt:i<vs.size:=by rw [← hl];exact (List.getElem?_eq_some_iff.1 hp).1
      refine ⟨vs[i],?_,fun fr' i' => ?_⟩
      · unfold execOp;rw [ho]
        simp [Sem.run_bind,ey,Instr.extract,hlt]
      · have:=hr i p vs[i] hp (by simp [hlt])
        have hun:p.un=p:=by
          cases y with
          | tmp t =>
            obtain ⟨q,hq,hq2⟩:=Option.map_eq_some_iff.mp hy;cases q with
            | pt q=>cases hq2
            | tup qs =>
              cases hq2
              rw [List.getElem?_map] at hp;obtain ⟨p0,_,rfl⟩:=Option.map_eq_some_iff.mp hp;cases p0 with
              | one c=>simp only [Pt.un];cases c <;> rfl
              | agg cs=>simp only [Pt.un,List.map_map];congr 1;exact List.map_congr_left fun c _=>by cases c <;> rfl
          | const v =>
            have hy:zS T.zc 0 v=some (.tup ps):=hy;unfold zS at hy;split at hy
            · split at hy <;> cases hy
            all_goals cases hy
          | func f=>cases hy
          | global q=>cases hy
        rw [← hun];exact this.un
    · cases hv
  · rename_i op t y z ty ho
    split at hv
    · rename_i u v hy hz
      obtain ⟨r,hr,rfl⟩:=Option.map_eq_some_iff.mp hv;exact ⟨r,adX hT hr y z ty o ho a.eval (fQ h hy 0 0).1 (fQ h hz 0 0).1,fun _ _=>⟨rfl,ab9 hr⟩⟩
    · rename_i a0 a1 b0 b1 hy hz
      split at hv
      case isFalse=>cases hv
      rename_i he
      have ey:a.eval y=.agg #[.int .i64 a0,.int .i64 a1]:=xw (fQ h hy 0 0);have ez:a.eval z=.agg #[.int .i64 b0,.int .i64 b1]:=xw (fQ h hz 0 0);obtain ⟨e1,e2⟩:=hT.e2 t he op y z a0 a1 b0 b1 W;cases op <;> simp only at hv;all_goals first
        | (cases hv;done)
        | (cases hv
           refine ⟨_,?_,fun _ _=>⟨rfl,rfl⟩⟩;unfold execOp;rw [ho];simp only [ey,ez,Sem.run_bind,e1,e2,Result.andThen_ok,binOp,Sem.run_pure])
    · cases hv
  · rename_i op t y ho
    split at hv
    · rename_i u hy
      obtain ⟨r,hr,rfl⟩:=Option.map_eq_some_iff.mp hv;have ey:a.eval y=u:=(fQ h hy 0 0).1;refine ⟨r,?_,fun _ _=>⟨rfl,adW hr⟩⟩;unfold execOp;rw [ho];simp only [ey];unfold unV at hr;split at hr
      · split at hr
        · cases hr;simp [Op.unary,Op.intArith,ab8]
        · cases hr
      · split at hr
        · cases hr;simp [Op.unary]
        · cases hr
      · cases hr
    · cases hv
  · rename_i c ho
    unfold af8 at hv;split at hv
    case h_4=>cases hv
    case h_2 =>
      rename_i ats0 x y hcal hargs
      split at hv
      case h_2=>cases hv
      rename_i k a0 k0 b0 hx hy
      cases hv
      refine ⟨.int k (mx a0 b0),?_,fun _ _=>⟨rfl,rfl⟩⟩;obtain ⟨cal,⟨args⟩,ats⟩:=c;try simp only at hcal hargs
      subst hcal;subst hargs;have e1:a.eval x=.int k a0:=(fQ h hx 0 0).1;have e2:a.eval y=.int k0 b0:=(fQ h hy 0 0).1;unfold execOp;rw [ho];simp [resolve,invoke,builtin,Sem.run_bind,vP,rV,e1,e2,mx]
    case h_3 =>
      rename_i ats0 x y hcal hargs
      split at hv
      case h_2=>cases hv
      rename_i k a0 k0 b0 hx hy
      cases hv
      refine ⟨.int k (mn a0 b0),?_,fun _ _=>⟨rfl,rfl⟩⟩;obtain ⟨cal,⟨args⟩,ats⟩:=c;try simp only at hcal hargs
      subst hcal;subst hargs;have e1:a.eval x=.int k a0:=(fQ h hx 0 0).1;have e2:a.eval y=.int k0 b0:=(fQ h hy 0 0).1;unfold execOp;rw [ho];simp [resolve,invoke,builtin,Sem.run_bind,vQ,rW,e1,e2,mn]
    rename_i y t hcal hargs hts
    split at hv
    · rename_i k n f el hy he
      cases hv
      obtain ⟨y',hy1,hy2⟩:=Option.bind_eq_some_iff.mp hy;obtain ⟨A,c0,ey,hle,hrow⟩:=uj (fQ h hy1 0 0) hy2;obtain ⟨e',k',b'⟩:=el;obtain ⟨hu,_⟩:=hT.el t _ _ _ he;refine ⟨.int .i64 n,?_,fun _ _=>⟨rfl,rfl⟩⟩;obtain ⟨cal,⟨args⟩,⟨ats⟩⟩:=c;try simp only at hcal hargs hts
      subst hcal;subst hargs;subst hts;unfold execOp;rw [ho];simp [resolve,invoke,builtin,Sem.run_bind,Builtin.len_,run_underlying hu,ey,goInt]
    · cases hv
  · rename_i op hno1 hno2 hno3 hno4 hno5 hno6 hno7 hno8 hno9
    cases hop:o.op with
    | convert s t x =>
      rw [hop] at hv;simp only [zV] at hv;split at hv
      case h_2=>cases hv
      rename_i k' n k0 k hx hs ht
      cases hv
      refine ⟨.int k (wr k n),?_,fun _ _=>⟨rfl,rfl⟩⟩;have ex:a.eval x=.int k' n:=(fQ h hx 0 0).1;unfold execOp;rw [hop];simp [convert,ex,Sem.run_bind,run_underlying (hT.ik _ _ hs),run_underlying (hT.ik _ _ ht),Conv.intToInt,ab8]
    | build t parts =>
      rw [hop] at hv;simp only [zV] at hv;split at hv
      case h_2=>cases hv
      rename_i cs ps hz hst
      obtain ⟨cs',hcs,rfl⟩:=Option.map_eq_some_iff.mp hv;obtain ⟨z,hz1,hz2,_⟩:=hT.zc _ _ hz;obtain ⟨fs,hf1,hf2⟩:=hT.st _ _ hst;obtain ⟨vs',q1,q2⟩:=xu h hcs (vs:=z.cells) (fun loc=>hz2 _ _ _ loc);refine ⟨.agg vs',?_,fun fr' i'=>⟨vs',rfl,q2 _⟩⟩;obtain ⟨inf,hi1,hi2⟩:=Option.map_eq_some_iff.mp hz1;unfold execOp;rw [hop];have hf3:=hf2 W;simp only [bind_pure_comp] at hf3;simp only [List.getElem?_toArray,List.getElem?_map] at q1;simp [Instr.build,Sem.run_bind,zeroValue,typeInfo,hi1,hi2,run_underlying hf1,hf3,q1]
    | slice t xo lo hi mx =>
      rw [hop] at hv;simp only [zV] at hv;split at hv
      case h_2=>cases hv
      rename_i k xs e' k' by' l0 h0 m0 hx he hl hh hm
      split at hv
      case isFalse=>cases hv
      rename_i hk
      subst hk;obtain ⟨x',hx1,hx2⟩:=Option.bind_eq_some_iff.mp hx;obtain ⟨A,c,ex,hle,hrow⟩:=vT (fQ h hx1 0 0) hx2;obtain ⟨hu,ii,z,hi',_,hsz,_⟩:=hT.el t _ _ _ he;have hb:∀ (y:Value) (kk:IntKind) (n:Int) (q:Nat) (code),y=.int kk n→0≤n→n≤(q:Int)→(Instr.sliceBound y q code).run P W=.ok n.toNat W:=fun y kk n q code e h1 h2=>by
        subst e;simp [Instr.sliceBound,Sem.run_bind,asIntOf,h1,h2]
      have fin:∀ (l q m:Nat),l≤q→q≤xs.length→q≤m→(Instr.sliceBounds true xs.length c (lo.map a.eval) (hi.map a.eval) (mx.map a.eval)).run P W=.ok (l,q,m) W→x=.pt (.one (.sl k ((xs.take q).drop l))) →
          ∃ v,(execOp a.eval o).run P W=.ok (.value v) W∧∀ fr' i',AVR σ.bx.length g W fr' i' x v:=fun l q m h1 h2 h3 hr hx=>by
        refine ⟨.slice (if m=l then A else A.map (·.add (l*k.sz))) (q - l) (m - l),?_,fun _ _=>by rw [hx];exact af9 (c:=c) hrow h1 h2 h3⟩;unfold execOp;rw [hop];simp [Instr.sliceAt,Instr.slice,Sem.run_bind,run_underlying hu,ex,hr,sizeOf,typeInfo,hi',hsz]
      rcases vU h hl with ⟨rfl,rfl⟩ | ⟨y1,k1,n1,rfl,rfl,e1⟩ <;> rcases vU h hh with ⟨rfl,rfl⟩ | ⟨y2,k2,n2,rfl,rfl,e2⟩ <;> rcases vU h hm with ⟨rfl,rfl⟩ | ⟨y3,k3,n3,rfl,rfl,e3⟩ <;> simp only [slC] at hv
      · cases hv
        exact fin 0 xs.length c (Nat.zero_le _) (Nat.le_refl _) hle (by simp [Instr.sliceBounds,Sem.run_bind]) (by simp [slL])
      · cases hv
      · split at hv
        case isFalse=>cases hv
        split at hv
        case isFalse=>cases hv
        rename_i q1 q2
        cases hv
        exact fin 0 n2.toNat c (Nat.zero_le _) (by omega) (by omega) (by simp [Instr.sliceBounds,Sem.run_bind,hb _ _ _ _ _ e2 q1 (by omega:n2≤(c:Int))]) (by simp [slL])
      · split at hv
        case isFalse=>cases hv
        split at hv
        case isFalse=>cases hv
        split at hv
        case isFalse=>cases hv
        rename_i q1 q2 q3
        cases hv
        exact fin 0 n2.toNat n3.toNat (Nat.zero_le _) (by omega) (by omega) (by simp [Instr.sliceBounds,Sem.run_bind,hb _ _ _ _ _ e3 (by omega) (by omega:n3≤(c:Int)),hb _ _ _ _ _ e2 q1 (by omega:n2≤(n3.toNat:Int))]) (by simp [slL])
      · split at hv
        case isFalse=>cases hv
        split at hv
        case isFalse=>cases hv
        rename_i q1 q2
        cases hv
        exact fin n1.toNat xs.length c (by omega) (Nat.le_refl _) hle (by simp [Instr.sliceBounds,Sem.run_bind,hb _ _ _ _ _ e1 q1 q2]) (by simp [slL])
      · cases hv
      · split at hv
        case isFalse=>cases hv
        split at hv
        case isFalse=>cases hv
        split at hv
        case isFalse=>cases hv
        rename_i q1 q2 q3
        cases hv
        exact fin n1.toNat n2.toNat c (by omega) (by omega) (by omega) (by simp [Instr.sliceBounds,Sem.run_bind,hb _ _ _ _ _ e2 (by omega) (by omega:n2≤(c:Int)),hb _ _ _ _ _ e1 q1 (by omega:n1≤(n2.toNat:Int))]) (by simp [slL])
      · cases hv
    | lookup t m xo ok =>
      rw [hop] at hv;cases ok with
      | true=>cases hv
      | false =>
        simp only [zV] at hv;split at hv
        case h_2=>cases hv
        rename_i l k r hm hx hmp
        split at hv
        case h_2=>cases hv
        rename_i xs hb
        cases hv
        obtain ⟨kt,et⟩:=r;obtain ⟨hl,em⟩:(l<σ.bx.length∧g.lv l)∧a.eval m=.map (some (g.bx l)):=fQ h hm 0 0;have ex:a.eval xo=.int .i64 k:=(fQ h hx 0 0).1;obtain ⟨_,_,_,es,ck,hh,hes⟩:=h.bx l _ hb;obtain ⟨hu,hk,z,hz,rfl⟩:=hT.mp t kt et hmp;obtain ⟨inf,hi1,hi2⟩:=Option.map_eq_some_iff.mp hz;refine ⟨.int .i64 (aan xs k),?_,fun _ _=>⟨rfl,rfl⟩⟩;have hck:∀ b,(Instr.checkKey b 10000 kt (.int .i64 k)).run P W=.ok () W:=fun b=>by
          rw [show (10000:Nat)=9999+1 from rfl,Instr.checkKey];simp only [Sem.run_bind,run_underlying hk,Result.andThen_ok,Sem.run_pure]
        suffices hs:(Instr.lookup t (.map (some (g.bx l))) (.int .i64 k) false).run P W=.ok (.int .i64 (aan xs k)) W by
          unfold execOp;rw [hop];simp only [em,ex,Sem.run_bind,hs,Result.andThen_ok,Sem.run_pure]
        rcases nS (kd:=.i64) (k:=k) 0 hes with ⟨q1,q2,q3⟩ | ⟨j,e',q1,q2,q3,q4⟩
        · have hf:(Instr.findKey kt (.int .i64 k) es.toList).run P W=.ok none W:=by simp [Instr.findKey,Sem.run_bind,run_underlying hk,q1]
          unfold Instr.lookup;simp only [Sem.run_bind,run_underlying hu,Result.andThen_ok,j4 hh,Sem.run_pure,hck,hf];simp [Sem.run_bind,zeroValue,typeInfo,hi1,hi2,q3]
        · have hf:(Instr.findKey kt (.int .i64 k) es.toList).run P W=.ok (some (0+j,.int .i64 (aan xs k))) W:=by simp [Instr.findKey,Sem.run_bind,run_underlying hk,q1]
          unfold Instr.lookup;simp only [Sem.run_bind,run_underlying hu,Result.andThen_ok,j4 hh,Sem.run_pure,hck,hf];simp [Sem.run_bind]
    | makeFunc fn first caps =>
      rw [hop] at hv;cases fn with
      | func f =>
        simp only [zV] at hv;split at hv
        case isFalse=>cases hv
        rename_i hf
        obtain ⟨bs,hbs,rfl⟩:=Option.map_eq_some_iff.mp hv;obtain ⟨q1,q2⟩:=uo h hbs;have e0:first=#[]:=Array.eq_empty_of_size_eq_zero hf
        subst e0;refine ⟨.func (.func f) #[] (bs.map fun l=>Value.pointer (some ⟨g.bx l,0,none⟩)).toArray,?_,fun _ _=>⟨q1,rfl⟩⟩;unfold execOp;rw [hop];have e1:caps.map a.eval=(bs.map fun l=>Value.pointer (some ⟨g.bx l,0,none⟩)).toArray:=by
          apply Array.toList_inj.1
          rw [Array.toList_map,q2]
        simp [Instr.makeFunc,e1]
      | _=>cases hv
    | _=>rw [hop] at hv;cases hv
end
end
end Go.Proofs.YtcomnjodjijcmaaGreat.M

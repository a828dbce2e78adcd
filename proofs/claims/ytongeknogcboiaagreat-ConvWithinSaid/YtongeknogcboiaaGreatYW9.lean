/- Lemmas for laws of chapter 7: what the functions that they reach compute. No condition of its own. -/
import Derived.Test.YtongeknogcboiaaGreatYW8
import Derived.Test.YtongeknogcboiaaGreatYW2
import Derived.KernelRfl
import Derived.WalkSpells
import Derived.Lib.LazyBuf
import Derived.OwnWalk
import Derived.Deep.DeepMust
import Derived.Lib.Hide
import Derived.ScopeJumps
namespace Go.Proofs.YtongeknogcboiaaGreat.M
noncomputable section
set_option linter.unusedVariables false
set_option linter.unusedSimpArgs false
open Go.RowKit Go.Proofs.YtongeknogcboiaaGreatW.fP Go.Proofs.YtongeknogcboiaaGreatW.gK
structure Nd where
  key:Nat
  j:Bool
  c:Code
  cur:Nat
def lZ:Code→Nat→List Nd
  | .seq x y,cur=>lZ x cur++⟨jn y,true,y,cur⟩ :: lZ y cur
  | .cond _ x y,cur=>lZ x cur++lZ y cur
  | .block id x,_=>lZ x id
  | .loop x,cur=>⟨cur,false,x,cur⟩ :: lZ x cur
  | .rangeFunc _ _ x y,cur=>lZ x cur++lZ y cur
  | .scope x,cur=>lZ x cur
  | _,_=>[]
section
variable {γ:Type} {Ek:Nat→pV} {fns:FuncId→Option Func} {A:acY γ} {iN:Hd→Nat→kg} {mY:HdK γ→Nat→mX γ}
def ndC (Ek:Nat→Env) (A:Ann) (iN:Hd→Nat→kg) (q:Nd) (Y:Hd) (rl:Option Nat) (k:Nat) (σ:St):Option (gy × St):=match q.j with
  | true=>(jX Ek A iN Y rl q.c k q.cur σ).map fun r=>(r.1,zw (A.xk q.key) r.2)
  | false=>zu (fun k σ=>jX Ek A iN Y rl q.c k q.cur σ) (A.lk q.key) (A.xk q.key) σ.bx.length k σ
def aew (Ek:Nat→pV) (fns:FuncId→Option Func) (A:acY γ) (iN:Hd→Nat→kg) (p:Nd):Prop:=match A.lp p.key with
  | some h=>∀ Y YK rl k,abH Y YK→tJ (ndC (fun k=>(Ek k).env fns) A.an iN p Y rl k) (h YK rl k)
  | none=>True
theorem wT:∀ (c:Code) (cur:Nat),(∀ p∈lZ c cur,aew Ek fns A iN p)→wS Ek fns A iN c cur:=by
  intro c;induction c with
  | seq x y aa ihy =>
    intro cur h;refine ⟨aa cur (fun p hp=>h p (List.mem_append_left _ hp)),?_⟩;have h0:=h ⟨jn y,true,y,cur⟩ (List.mem_append_right _ List.mem_cons_self);unfold aew at h0;simp only at h0;cases hl:A.lp (jn y) with
    | some f=>simp only [hl] at h0 ⊢;exact h0
    | none=>exact ihy cur (fun p hp=>h p (List.mem_append_right _ (List.mem_cons_of_mem _ hp)))
  | cond _ x y aa ihy=>exact fun cur h=>⟨aa cur (fun p hp=>h p (List.mem_append_left _ hp)),ihy cur (fun p hp=>h p (List.mem_append_right _ hp))⟩
  | rangeFunc _ _ x y aa ihy=>exact fun cur h=>⟨aa cur (fun p hp=>h p (List.mem_append_left _ hp)),ihy cur (fun p hp=>h p (List.mem_append_right _ hp))⟩
  | block id x ih=>exact fun cur h=>ih id h
  | scope x ih=>exact fun cur h=>ih cur h
  | loop x ih =>
    intro cur h;have h0:=h ⟨cur,false,x,cur⟩ List.mem_cons_self;unfold aew at h0;unfold wS;simp only at h0;cases hl:A.lp cur with
    | some f=>simp only [hl] at h0 ⊢;exact h0
    | none=>exact ih cur (fun p hp=>h p (List.mem_cons_of_mem _ hp))
  | _=>exact fun cur h=>trivial
theorem aaP {E:Env} {mv:Nat→Bool}:∀ (c:Code) (cur:Nat),okC E mv c=true→∀ p∈lZ c cur,okC E mv p.c=true:=by
  intro c;induction c with
  | seq x y ihx ihy =>
    intro cur h p hp;have h:=(Bool.and_eq_true _ _ ▸ h:_∧_);rcases List.mem_append.1 hp with hp | hp
    · exact ihx cur h.1 p hp
    · rcases List.mem_cons.1 hp with rfl | hp
      · exact h.2
      · exact ihy cur h.2 p hp
  | cond _ x y ihx ihy=>exact fun cur h p hp=>(List.mem_append.1 hp).elim (ihx cur (Bool.and_eq_true _ _ ▸ h:_∧_).1 p) (ihy cur (Bool.and_eq_true _ _ ▸ h:_∧_).2 p)
  | block id x ih=>exact fun cur h p hp=>ih id h p hp
  | scope x ih=>exact fun cur h p hp=>ih cur h p hp
  | loop x ih=>exact fun cur h p hp=>(List.mem_cons.1 hp).elim (fun e=>by rw [e];exact h) (ih cur h p)
  | rangeFunc f ps x y ihx ihy=>exact fun cur h p hp=>(List.mem_append.1 hp).elim (ihx cur (Bool.and_eq_true _ _ ▸ h:_∧_).1 p) (ihy cur (Bool.and_eq_true _ _ ▸ h:_∧_).2 p)
  | _=>exact fun cur h p hp=>by cases hp
theorem acB:∀ (c:Code) (cur:Nat),∀ q∈lZ c cur,∀ p∈lZ q.c q.cur,p∈lZ c cur:=by
  intro c;induction c with
  | seq x y ihx ihy =>
    intro cur q hq p hp;rcases List.mem_append.1 hq with hq | hq
    · exact List.mem_append_left _ (ihx cur q hq p hp)
    · rcases List.mem_cons.1 hq with rfl | hq
      · exact List.mem_append_right _ (List.mem_cons_of_mem _ hp)
      · exact List.mem_append_right _ (List.mem_cons_of_mem _ (ihy cur q hq p hp))
  | cond _ x y ihx ihy=>exact fun cur q hq p hp=>(List.mem_append.1 hq).elim (fun h=>List.mem_append_left _ (ihx cur q h p hp)) (fun h=>List.mem_append_right _ (ihy cur q h p hp))
  | rangeFunc _ _ x y ihx ihy=>exact fun cur q hq p hp=>(List.mem_append.1 hq).elim (fun h=>List.mem_append_left _ (ihx cur q h p hp)) (fun h=>List.mem_append_right _ (ihy cur q h p hp))
  | block id x ih=>exact fun cur q hq p hp=>ih id q hq p hp
  | scope x ih=>exact fun cur q hq p hp=>ih cur q hq p hp
  | loop x ih =>
    intro cur q hq p hp;rcases List.mem_cons.1 hq with rfl | hq
    · exact List.mem_cons_of_mem _ hp
    · exact List.mem_cons_of_mem _ (ih cur q hq p hp)
  | _=>exact fun cur q hq=>by cases hq
end
section
variable {γ:Type}
def PC.gen:PC→PC
  | .li k _=>.i k
  | .lb _=>.b
  | .ls t=>.s t
  | .lo q t=>.o q t
  | .lm q t=>.mu q t
  | p=>p
def ae0:List PC→List Cell→Bool
  | [],[]=>true
  | p :: ps,c :: cs=>match p.gen.rd c with
    | some _=>ae0 ps cs
    | none=>false
  | _,_=>false
def PB.kin:PB→Bx→Bool
  | .box t ps,.box t' cs=>if t'=t then ae0 ps cs else false
  | .lmi,.mi _=>true
  | p,x=>(p.rd x).isSome
def ae1:List PB→List Bx→Bool
  | [],[]=>true
  | p :: ps,x :: xs=>match p.kin x with
    | true=>ae1 ps xs
    | false=>false
  | _,_=>false
def yrd (b:Bool) (ps:List PB):AV→List Bx→Option (List Lf)
  | .pt (.one (.v (.bool c))),bx=>if c=b then (match ae1 ps bx with
    | true=>aeU ps bx
    | false=>none) else none
  | _,_=>none
theorem j5 {b:Bool} {ps:List PB} {x:AV} {bx:List Bx} {ls:List Lf} (h:yrd b ps x bx=some ls):x=kC b∧(oq ps ls).1=bx:=by
  unfold yrd at h;split at h
  · split at h
    · rename_i e
      split at h
      case h_2=>cases h
      have:=wR (r:=[]) h;rw [List.append_nil] at this;rw [this,e];exact ⟨rfl,rfl⟩
    · cases h
  · cases h
def oh (fn:Func):List Nd:=match fn.body with
  | some c=>lZ c 0
  | none=>[]
def lnd (fn:Func) (key:Nat):Nd:=((oh fn).find? fun p=>Nat.beq p.key key).getD ⟨0,false,.skip,0⟩
structure LpE (γ:Type) where
  n:Nat
  f:Nat
  cur:Nat
  h:LpK γ
structure YdE (γ:Type) where
  n:Nat
  f:Nat
  l:Nat
  T:YdK γ
def lpF:List (LpE γ)→Nat→Nat→Nat→Option (LpK γ)
  | [],_,_,_=>none
  | e :: r,n,f,c=>match Nat.beq e.n n&&(Nat.beq e.f f&&Nat.beq e.cur c) with
    | true=>some e.h
    | false=>lpF r n f c
def ydF:List (YdE γ)→Nat→Nat→Nat→Option (YdK γ)
  | [],_,_,_=>none
  | e :: r,n,f,c=>match Nat.beq e.n n&&(Nat.beq e.f f&&Nat.beq e.l c) with
    | true=>some e.T
    | false=>ydF r n f c
theorem aaQ {h:LpK γ} {n f c:Nat}:∀ {t:List (LpE γ)},lpF t n f c=some h→∃ e∈t,e.n=n∧e.f=f∧e.cur=c∧e.h=h
  | [],hh=>by cases hh
  | e :: r,hh=>by
    unfold lpF at hh;split at hh
    · rename_i hb
      simp only [Bool.and_eq_true] at hb;exact ⟨e,List.mem_cons_self,Nat.eq_of_beq_eq_true hb.1,Nat.eq_of_beq_eq_true hb.2.1,Nat.eq_of_beq_eq_true hb.2.2,Option.some.inj hh⟩
    · obtain ⟨e',h1,h2⟩:=aaQ hh
      exact ⟨e',List.mem_cons_of_mem _ h1,h2⟩
theorem wU {T:YdK γ} {n f c:Nat}:∀ {t:List (YdE γ)},ydF t n f c=some T→∃ e∈t,e.T=T
  | [],hh=>by cases hh
  | e :: r,hh=>by
    unfold ydF at hh;split at hh
    · exact ⟨e,List.mem_cons_self,Option.some.inj hh⟩
    · obtain ⟨e',h1,h2⟩:=wU hh
      exact ⟨e',List.mem_cons_of_mem _ h1,h2⟩
structure Ctx (γ:Type) where
  Ek:Nat→pV
  fl:List (Nat × Func)
  an:Nat→Ann
  lp:List (LpE γ)
  yd:List (YdE γ)
def lk.{u} {α:Type u} (t:Nat):List (Nat × α)→Option α
  | []=>none
  | (a,x) :: r=>match Nat.beq t a with
    | true=>some x
    | false=>lk t r
theorem mE.{u} {α:Type u} {t:Nat} {x:α}:∀ {l:List (Nat × α)},lk t l=some x→(t,x)∈l
  | [],h=>by cases h
  | (a,y) :: r,h=>by
    unfold lk at h;split at h
    · rename_i e
      cases h
      rw [Nat.eq_of_beq_eq_true e];exact List.mem_cons_self
    · exact List.mem_cons_of_mem _ (mE h)
def Ctx.fns (C:Ctx γ):FuncId→Option Func:=fun f=>lk f C.fl
def Ctx.A (C:Ctx γ):aev γ:=⟨C.an,lpF C.lp,ydF C.yd⟩
def Ctx.env (C:Ctx γ):Nat→Env:=fun k=>(C.Ek k).env C.fns
def Ctx.cD (C:Ctx γ) (n:Nat):Hd→Nat→kg:=rC C.env C.fns C.an n
def Ctx.cK (C:Ctx γ) (n f:Nat):HdK γ→Nat→mX γ:=vL C.Ek C.fns C.A n (ydF C.yd n f)
def Ctx.nK (C:Ctx γ) (n f:Nat) (q:Nd) (YK:HdK γ) (rl:Option Nat) (N k:Nat) (σ:St) (K:gy→St→Option γ):Option γ:=match q.j with
  | true=>mD C.Ek (C.A.at n f) (C.cK n f) YK rl q.c k q.cur σ (acv ((C.an f).xk q.key) K)
  | false=>acu (fun k σ K=>mD C.Ek (C.A.at n f) (C.cK n f) YK rl q.c k q.cur σ K) ((C.an f).lk q.key) ((C.an f).xk q.key) N k σ K
def Ctx.lK (C:Ctx γ) (n f cur:Nat) (fn:Func) (YK:HdK γ) (rl:Option Nat) (N k:Nat) (σ:St) (K:gy→St→Option γ):Option γ:=C.nK n f (lnd fn cur) YK rl N k σ K
def Ctx.has (C:Ctx γ) (f key:Nat):Bool:=C.lp.any fun e=>Nat.beq e.f f&&Nat.beq e.cur key
def Ctx.nds (C:Ctx γ) (f:Nat) (fn:Func):List Nd:=(oh fn).filter fun q=>C.has f q.key
def Ctx.bK (C:Ctx γ) (n f:Nat) (fn:Func) (k:Nat) (ys:List AV) (K:AV→List Bx→Option γ):Option γ:=aaM C.Ek (C.A.at n f) (C.cK n f) (fun _=>none) k fn [] ys [] K
def iX (C:Ctx γ) (e:LpE γ):Prop:=∀ fn,lk e.f C.fl=some fn→∀ Y YK rl k,abH Y YK→tJ (ndC C.env (C.an e.f) (C.cD e.n) (lnd fn e.cur) Y rl k) (e.h YK rl k)
structure Ctx.Ok (C:Ctx γ):Prop where
  okF:∀ p∈C.fl,∀ k,okF (C.env k) (C.an p.1).mv p.2=true
  ls:∀ p∈C.fl,C.nds p.1 p.2=(C.nds p.1 p.2).map fun q=>lnd p.2 q.key
  yd:∀ e∈C.yd,uE e.T
theorem Ctx.Ok.agE {C:Ctx γ} (h:C.Ok) {n f:Nat} {fn:Func} (hf:lk f C.fl=some fn) {q:Nd} (hq:q∈oh fn) (hl:∀ e∈C.lp,e.n=n→e.f=f→e.cur=q.key→iX C e):aew C.Ek C.fns (C.A.at n f) (C.cD n) q:=by
  unfold aew;cases hh:(C.A.at n f).lp q.key with
  | none=>trivial
  | some h0 =>
    obtain ⟨e,h1,rfl,rfl,h4,rfl⟩:=aaQ hh;have hin:q∈C.nds e.f fn:=List.mem_filter.2 ⟨hq,List.any_eq_true.2 ⟨e,h1,by simp [h4]⟩⟩;have hls:=h.ls _ (mE hf);simp only at hls;have hq2:q=lnd fn q.key:=by
      obtain ⟨i,hi⟩:=List.getElem?_of_mem hin;have h5:((C.nds e.f fn).map fun q=>lnd fn q.key)[i]? = some q:=by rw [← hls];exact hi
      rw [List.getElem?_map,hi] at h5;exact (Option.some.inj h5).symm
    have:=hl e h1 rfl rfl h4 fn hf;rw [h4,← hq2] at this;exact this
theorem Ctx.Ok.agF {C:Ctx γ} (h:C.Ok) {n:Nat} (hl:∀ e∈C.lp,e.n=n→iX C e) {f:FuncId} {fn:Func} (hf:C.fns f=some fn):aeW C.Ek C.fns (C.A.at n f) (rC C.env C.fns C.A.an n) fn∧∀ l T,C.A.yd n f l=some T→uE T:=by
  refine ⟨fun c hc=>⟨fun k => ?_,wT c 0 (fun p hp => ?_)⟩,fun l T hT => ?_⟩
  · have:=h.okF _ (mE hf) k
    unfold M.okF at this;simp only [hc] at this;exact this
  · exact h.agE hf (by unfold oh;rw [hc];exact hp) (fun e he hn _ _=>hl e he hn)
  · obtain ⟨e,h1,rfl⟩:=wU hT
    exact h.yd e h1
def afH:List (PS × (HdK γ→Nat→(gy→St→Option γ)→List Lf→Option γ))→HdK γ→Nat→St→(gy→St→Option γ)→Option γ
  | [],_,_,_,_=>none
  | (p,g) :: r,YK,k,σ,K=>match p.rd σ with
    | some ls=>g YK k K ls
    | none=>afH r YK k σ K
theorem yD {YK:HdK γ} {k:Nat} {σ:St} {K:gy→St→Option γ} {v:γ}:∀ {l:List (PS × (HdK γ→Nat→(gy→St→Option γ)→List Lf→Option γ))},afH l YK k σ K=some v→∃ q∈l,∃ ls,q.1.mk' ls=σ∧q.2 YK k K ls=some v
  | [],h=>by cases h
  | (p,g) :: r,h=>by
    unfold afH at h;split at h
    · rename_i ls hls
      exact ⟨(p,g),List.mem_cons_self,ls,PS.rd_mk hls,h⟩
    · obtain ⟨q,h1,h2⟩:=yD h
      exact ⟨q,List.mem_cons_of_mem _ h1,h2⟩
def rlB:Option (Option Nat)→Option Nat→Bool
  | none,_=>true
  | some none,none=>true
  | some (some a),some b=>Nat.beq a b
  | _,_=>false
theorem ae2 {r r':Option Nat} (h:rlB (some r) r'=true):r'=r:=by
  cases r <;> cases r' <;> first | rfl | (cases h;done) | exact congrArg some (Nat.eq_of_beq_eq_true h).symm
def afI (R:Option (Option Nat)) (l:List (PS × (HdK γ→Nat→(gy→St→Option γ)→List Lf→Option γ))):LpK γ:=fun YK rl k σ K=>match rlB R rl with
  | true=>afH l YK k σ K
  | false=>none
abbrev jD (l:List (PS × (HdK γ→Nat→(gy→St→Option γ)→List Lf→Option γ))):LpK γ:=afI none l
abbrev aex (r:Option Nat) (l:List (PS × (HdK γ→Nat→(gy→St→Option γ)→List Lf→Option γ))):LpK γ:=afI (some r) l
def rkB (n f:Nat) (ins:List Nat) (e:LpE γ):Bool:=Nat.blt e.n n || (Nat.beq e.n n&&(Nat.beq e.f f&&vY e.cur ins))
theorem Ctx.Ok.lpQ {C:Ctx γ} (h:C.Ok) {R:Option (Option Nat)} {n f cur:Nat} {fn:Func} {l:List (PS × (HdK γ→Nat→(gy→St→Option γ)→List Lf→Option γ))} (ins:List Nat) (hf:lk f C.fl=some fn)
    (hn:((lZ (lnd fn cur).c (lnd fn cur).cur).all fun p => !C.has f p.key || vY p.key ins)=true) (hin:(oh fn).any (fun p=>Nat.beq p.key cur)=true) (hl:∀ e∈C.lp,rkB n f ins e=true→iX C e)
    (he:∀ q∈l,∀ YK rl k ls K v,rlB R rl=true→q.2 YK k K ls=some v→C.lK n f cur fn YK rl (q.1.mk' ls).bx.length k (q.1.mk' ls) K=some v):iX C ⟨n,f,cur,afI R l⟩:=by
  intro fn' hf' Y YK rl k hY σ K v hv;simp only at hf' hv;rw [hf] at hf';cases hf';unfold afI at hv;split at hv
  case h_2=>cases hv
  rename_i hR
  obtain ⟨q,h1,ls,rfl,h2⟩:=yD hv;have h3:=he q h1 YK rl k ls K v hR h2;have hlow:∀ m,m<n→∀ f fn,C.fns f=some fn→aeW C.Ek C.fns (C.A.at m f) (rC C.env C.fns C.A.an m) fn∧∀ l T,C.A.yd m f l=some T→uE T:=fun m hm f fn hf=>h.agF (fun e he hn=>hl e he (by
    subst hn;unfold rkB;rw [Bool.or_eq_true];exact .inl (Nat.ble_eq_true_of_le hm))) hf
  have hC:tK (C.cD n) (C.cK n f):=qM n _ (fun l T hT=>by
    obtain ⟨e,h1,rfl⟩:=wU hT;exact h.yd e h1) hlow
  have hmem:lnd fn cur∈oh fn:=by
    obtain ⟨p,hp,hb⟩:=List.any_eq_true.1 hin;unfold lnd;cases hf:(oh fn).find? fun p=>Nat.beq p.key cur with
    | none=>exact ((List.find?_eq_none.1 hf) p hp hb).elim
    | some q=>exact List.mem_of_find?_eq_some hf
  obtain ⟨q0,hq0⟩:∃ q0,lnd fn cur=q0:=⟨_,rfl⟩;have hok:∀ k,okC ((C.Ek k).env C.fns) (C.A.at n f).an.mv q0.c=true:=fun k=>by
    have h4:=h.okF _ (mE hf) k;unfold M.okF at h4;cases hc:fn.body with
    | none=>unfold oh at hmem;rw [hc] at hmem;cases hmem
    | some c =>
      simp only [hc] at h4;unfold oh at hmem;rw [hc] at hmem;rw [← hq0];exact aaP c 0 h4 _ hmem
  have aa:∀ p∈lZ q0.c q0.cur,aew C.Ek C.fns (C.A.at n f) (C.cD n) p:=fun p hp=>by
    have hpm:p∈oh fn:=by
      unfold oh at hmem ⊢;cases hc:fn.body with
      | none=>rw [hc] at hmem;cases hmem
      | some c=>rw [hc] at hmem;exact acB c 0 _ hmem p (by rw [hq0];exact hp)
    refine h.agE hf hpm (fun e he g1 g2 g3=>hl e he ?_);have hb:=List.all_eq_true.1 hn p (by rw [hq0];exact hp);have hh:C.has f p.key=true:=List.any_eq_true.2 ⟨e,he,by simp [g2,g3]⟩;rw [hh] at hb;unfold rkB;rw [Bool.or_eq_true,g1,g2,g3];exact .inr (by simpa using hb)
  unfold Ctx.lK Ctx.nK at h3;show Option.bind (ndC C.env (C.an f) (C.cD n) (lnd fn cur) Y rl k _) _=_;unfold ndC;rw [hq0] at h3 ⊢;cases hj:q0.j with
  | true =>
    simp only [hj] at h3 ⊢;exact yB (tO (A:=C.A.at n f) hC q0.c q0.cur hok (wT _ _ aa) Y YK rl k hY _ _ v h3)
  | false =>
    simp only [hj] at h3 ⊢;exact tN (fun k=>tO (A:=C.A.at n f) hC q0.c q0.cur hok (wT _ _ aa) Y YK rl k hY) k _ K v h3
theorem Ctx.Ok.lpE {C:Ctx γ} (h:C.Ok) {n f cur:Nat} {fn:Func} {l:List (PS × (HdK γ→Nat→(gy→St→Option γ)→List Lf→Option γ))} (ins:List Nat) (hf:lk f C.fl=some fn)
    (hn:((lZ (lnd fn cur).c (lnd fn cur).cur).all fun p => !C.has f p.key || vY p.key ins)=true) (hin:(oh fn).any (fun p=>Nat.beq p.key cur)=true) (hl:∀ e∈C.lp,rkB n f ins e=true→iX C e)
    (he:∀ q∈l,∀ YK rl k ls K v,q.2 YK k K ls=some v→C.lK n f cur fn YK rl (q.1.mk' ls).bx.length k (q.1.mk' ls) K=some v):iX C ⟨n,f,cur,jD l⟩:=h.lpQ ins hf hn hin hl fun q hq YK rl k ls K v _=>he q hq YK rl k ls K v
theorem Ctx.Ok.lpR {C:Ctx γ} (h:C.Ok) {r:Option Nat} {n f cur:Nat} {fn:Func} {l:List (PS × (HdK γ→Nat→(gy→St→Option γ)→List Lf→Option γ))} (ins:List Nat) (hf:lk f C.fl=some fn)
    (hn:((lZ (lnd fn cur).c (lnd fn cur).cur).all fun p => !C.has f p.key || vY p.key ins)=true) (hin:(oh fn).any (fun p=>Nat.beq p.key cur)=true) (hl:∀ e∈C.lp,rkB n f ins e=true→iX C e)
    (he:∀ q∈l,∀ YK k ls K v,q.2 YK k K ls=some v→C.lK n f cur fn YK r (q.1.mk' ls).bx.length k (q.1.mk' ls) K=some v):iX C ⟨n,f,cur,aex r l⟩:=h.lpQ ins hf hn hin hl fun q hq YK rl k ls K v hr=>by
  rw [ae2 hr];exact he q hq YK k ls K v
theorem acC {P:Program} {rs:List RT} {C:Ctx (r9 rs)} (h:C.Ok) {n f:Nat} {fn:Func} {ts:List Ty} {F:mZ ts→Option (r9 rs)}
    (hm:P.follows .mixedOrders=true) (hT:∀ k,nG P (C.Ek k).T) (hN:∀ k f,(C.Ek k).nw f=true→vw P f) (hS:∀ k f m,(C.Ek k).sm f=some m→jK P f m.s) (hF:∀ p∈C.fl,P.funcs[p.1]? = some p.2∧(p.2.name == "runtime.NumGoroutine")=false) (hl:∀ e∈C.lp,iX C e)
    (aa:lk f C.fl=some fn) (hb:fn.body.isSome=true)
    (hw:∀ (a:mZ ts) (x:r9 rs),F a=some x→∃ k,C.bK n f fn k (kI ts a) (K0 rs)=some x):jK P f (jN ts rs F).s :=
  adS (A:=C.A) (n:=n) (Ek:=C.Ek) (fns:=C.fns) hm hT (fun k=>acA (hN k) (hS k)) (fun f fn hf=>hF _ (mE hf)) (fun m _ f fn hf=>h.agF (fun e he _=>hl e he) hf) aa hb hw
end
end
end Go.Proofs.YtongeknogcboiaaGreat.M
namespace Go.Proofs.YtongeknogcboiaaGreat.M
noncomputable section
set_option linter.unusedVariables false
set_option linter.unusedSimpArgs false
open Go.RowKit Go.Proofs.YtongeknogcboiaaGreatW.fP Go.Proofs.YtongeknogcboiaaGreatW.gK
structure TbL where
  sh:List (Nat × Bool × Nat)
  zc:List (Nat × List Cell)
  fo:List (Nat × List Nat)
  el:List (Nat × TypeId × Ty × Nat)
  ik:List (Nat × IntKind)
  bl:List Nat
  st:List (Nat × List (Nat × Nat × TypeId))
  e2:List Nat
  mp:List (Nat × TypeId × TypeId)
def TbL.tb (L:TbL):Tb where
  sh t:=lk t L.sh
  zc t:=lk t L.zc
  fo t f:=(lk t L.fo).bind fun l=>l[f]?
  el t:=lk t L.el
  ik t:=lk t L.ik
  bl t:=vY t L.bl
  st t:=lk t L.st
  e2 t:=vY t L.e2
  mp t:=lk t L.mp
def zM:Cell→Value→Bool
  | .v (.int k n),.int k' n'=>decide (k=k')&&decide (n=n')
  | .v (.bool b),.bool b'=>b==b'
  | .v .nilFunc,.nilFunc=>true
  | .ow _ _ [],.slice none 0 0=>true
  | _,_=>false
def zMs:List Cell→List Value→Bool
  | [],[]=>true
  | c :: cs,v :: vs=>zM c v&&zMs cs vs
  | _,_=>false
theorem afT {c:Cell} {v:Value} (h:zM c v=true):(∀ nb g W ℓ,CR nb g W ℓ c v)∧v.oneCell'=true:=by
  unfold zM at h;split at h
  · simp at h
    obtain ⟨rfl,rfl⟩:=h;exact ⟨fun _ _ _ _=>⟨rfl,rfl⟩,rfl⟩
  · simp at h
    subst h;exact ⟨fun _ _ _ _=>⟨rfl,rfl⟩,rfl⟩
  · exact ⟨fun _ _ _ _=>⟨rfl,rfl⟩,rfl⟩
  · refine ⟨fun nb g W ℓ=>⟨⟨none,0,rfl,Nat.le_refl _,fun i x hx=>by simp at hx⟩,⟨[],by simp,.inl ⟨rfl,rfl⟩⟩,fun b hb=>by cases hb⟩,rfl⟩
  · cases h
theorem ac0:∀ {cs:List Cell} {vs:List Value},zMs cs vs=true→(∀ nb g W loc,CsR nb g W loc cs vs)∧∀ v∈vs,v.oneCell'=true
  | [],[],_=>⟨fun _ _ _ _=>⟨rfl,fun k c v hc=>by simp at hc⟩,fun v hv=>by cases hv⟩
  | [],_ :: _,h=>by cases h
  | _ :: _,[],h=>by cases h
  | c :: cs,v :: vs,h=>by
    simp only [zMs,Bool.and_eq_true] at h;obtain ⟨h1,h2⟩:=afT h.1;obtain ⟨h3,h4⟩:=ac0 h.2;refine ⟨fun nb g W loc=>⟨by simp [(h3 nb g W loc).1],fun k c' v' hc hv => ?_⟩,fun u hu=>(List.mem_cons.1 hu).elim (fun e=>by rw [e];exact h2) (h4 u)⟩;cases k with
    | zero=>simp at hc hv;subst hc;subst hv;exact h1 _ _ _ _
    | succ k=>exact (h3 nb g W (fun k=>loc (k+1))).2 k c' v' (by simpa using hc) (by simpa using hv)
section
variable (P:Program)
def agG (p:Nat × Bool × Nat):Bool:=(match P.underlying p.1 with | some d=>d.isRow==p.2.1 | none=>false)&&((P.info? p.1).map (·.size)==some p.2.2)
def agH (p:Nat × List Cell):Bool:=match (P.info? p.1).map (·.zero) with | some (some z)=>zMs p.2 z.cells.toList | _=>false
def agI (p:Nat × List Nat):Bool:=match P.underlying p.1 with
  | some (.struct fs)=>(List.range p.2.length).all fun f=>match fs[f]? with
    | some fd=>p.2[f]? == some fd.offset&&(match P.info? fd.type with | some i=>i.size != 0 | none=>false)
    | none=>false
  | _=>false
def agJ (p:Nat × TypeId × Ty × Nat):Bool:=(match P.underlying p.1 with | some (.slice e)=>e==p.2.1 | _=>false)&&match P.info? p.2.1 with
  | some i=>(match i.zero with | some z=>z.cells.size==p.2.2.1.sz | none=>false)&&i.size==p.2.2.1.sz&&i.bytes==p.2.2.2&&decide (0<p.2.2.2)
  | none=>false
def agK (p:Nat × IntKind):Bool:=match P.underlying p.1 with | some (.int k)=>decide (k=p.2) | _=>false
def agL (t:Nat):Bool:=match P.underlying t with | some .bool=>true | _=>false
def agM (p:Nat × List (Nat × Nat × TypeId)):Bool:=match P.underlying p.1 with
  | some (.struct fs)=>fs.toList.map (fun f=>(f.offset,(P.info? f.type).map (·.size)))==p.2.map (fun q=>(q.1,some q.2.1))
  | _=>false
def agN (p:Nat × TypeId × TypeId):Bool:=match P.underlying p.1,P.underlying p.2.1,(P.info? p.2.2).map TypeInfo.zero with
  | some (TypeDesc.map a b),some (TypeDesc.int IntKind.i64),some (some (Value.int IntKind.i64 n))=>a==p.2.1&&(b==p.2.2&&decide (n=0))
  | _,_,_=>false
theorem ac1:∀ (fs:List Field) (ps:List (Nat × Nat × TypeId)) (W:World),fs.map (fun f=>(f.offset,(P.info? f.type).map (·.size)))=ps.map (fun q=>(q.1,some q.2.1))→(fs.mapM fun f=>(do pure (f.offset,← sizeOf f.type):Sem (Nat × Nat))).run P W=.ok (ps.map fun p=>(p.1,p.2.1)) W
  | [],[],W,_=>by simp
  | [],_ :: _,W,h=>by cases h
  | _ :: _,[],W,h=>by cases h
  | f :: fs,p :: ps,W,h=>by
    simp only [List.map_cons,List.cons.injEq,Prod.mk.injEq] at h;obtain ⟨⟨h1,h2⟩,h3⟩:=h;have ih:=ac1 fs ps W h3;obtain ⟨i,hi,hi2⟩:=Option.map_eq_some_iff.mp h2;have hsz:(sizeOf f.type).run P W=.ok p.2.1 W:=by simp [sizeOf,typeInfo,Sem.run_bind,hi,hi2]
    simp only [List.mapM_cons,Sem.run_bind,hsz,Result.andThen_ok,Sem.run_pure,ih,h1,List.map_cons]
structure TbL.Ok (L:TbL):Prop where
  sh:L.sh.all (agG P)=true
  zc:L.zc.all (agH P)=true
  fo:L.fo.all (agI P)=true
  el:L.el.all (agJ P)=true
  ik:L.ik.all (agK P)=true
  bl:L.bl.all (agL P)=true
  st:L.st.all (agM P)=true
  mp:L.mp.all (agN P)=true
  e2:∀ t,vY t L.e2=true→∀ (op:BinOp) (x y:Operand) (a0 a1 b0 b1:Int) (W:World),(eqGuard op t x y (.agg #[.int .i64 a0,.int .i64 a1]) (.agg #[.int .i64 b0,.int .i64 b1])).run P W=.ok () W∧(Op.equal t (.agg #[.int .i64 a0,.int .i64 a1]) (.agg #[.int .i64 b0,.int .i64 b1])).run P W=.ok (a0==b0&&a1==b1) W
theorem qd {i:Nat}:∀ {l:List Nat},vY i l=true→i∈l
  | [],h=>by cases h
  | j :: r,h=>by
    unfold vY at h;split at h
    · rename_i e;rw [Nat.eq_of_beq_eq_true e];exact List.mem_cons_self
    · exact List.mem_cons_of_mem _ (qd h)
variable {P}
theorem TbL.ok {L:TbL} (h:L.Ok P):nG P L.tb where
  sh t ag n ht:=by
    have:=List.all_eq_true.1 h.sh _ (mE ht);simp only [agG,Bool.and_eq_true] at this;obtain ⟨h1,h2⟩:=this;refine ⟨?_,by simpa using h2⟩;split at h1
    · rename_i d hd;exact ⟨d,hd,by simpa using h1⟩
    · cases h1
  zc t cs ht:=by
    have:=List.all_eq_true.1 h.zc _ (mE ht);simp only [agH] at this;split at this
    · rename_i z hz;obtain ⟨h1,h2⟩:=ac0 this;exact ⟨z,hz,h1,h2⟩
    · cases this
  fo t f off ht:=by
    obtain ⟨l,h1,h2⟩:=Option.bind_eq_some_iff.mp ht;have:=List.all_eq_true.1 h.fo _ (mE h1);simp only [agI] at this;split at this
    · rename_i fs hu
      have h3:=List.all_eq_true.1 this f (List.mem_range.2 (List.getElem?_eq_some_iff.1 h2).1);split at h3
      · rename_i fd aa
        simp only [Bool.and_eq_true] at h3;obtain ⟨h4,h5⟩:=h3;split at h5
        · rename_i i hi
          rw [h2] at h4;exact ⟨fs,fd,i,hu,aa,by simpa using (Eq.symm (by simpa using h4:off=fd.offset)),hi,by simpa using h5⟩
        · cases h5
      · cases h3
    · cases this
  el t e k by' ht:=by
    have:=List.all_eq_true.1 h.el _ (mE ht);simp only [agJ,Bool.and_eq_true] at this;obtain ⟨h1,h2⟩:=this;split at h1
    · rename_i e' hu
      have he:e'=e:=by simpa using h1
      subst he;split at h2
      · rename_i i hi
        simp only [Bool.and_eq_true] at h2;obtain ⟨⟨⟨h3,h4⟩,h5⟩,h6⟩:=h2;split at h3
        · rename_i z hz
          exact ⟨hu,i,z,hi,hz,by simpa using h4,by simpa using h5,by simpa using h3,by simpa using h6⟩
        · cases h3
      · cases h2
    · cases h1
  ik t k ht:=by
    have:=List.all_eq_true.1 h.ik _ (mE ht);simp only [agK] at this;split at this
    · rename_i k' hu
      have e:k'=k:=by simpa using this
      rw [← e];exact hu
    · cases this
  bl t ht:=by
    have:=List.all_eq_true.1 h.bl _ (qd ht);simp only [agL] at this;split at this
    · assumption
    · cases this
  st t ps ht:=by
    have:=List.all_eq_true.1 h.st _ (mE ht);simp only [agM] at this;split at this
    · rename_i fs hu
      refine ⟨fs,hu,fun W => ?_⟩;have:=ac1 P fs.toList ps W (by simpa using this);rw [Array.mapM_eq_mapM_toList];simp only [map_eq_pure_bind,Sem.run_bind,this,Result.andThen_ok,Sem.run_pure]
    · cases this
  e2 t ht:=h.e2 t ht
  mp t kt et ht:=by
    have:=List.all_eq_true.1 h.mp _ (mE ht);simp only [agN] at this;split at this
    · rename_i a b n q1 q2 q3
      simp only [Bool.and_eq_true,beq_iff_eq,decide_eq_true_eq] at this;obtain ⟨rfl,rfl,rfl⟩:=this;exact ⟨q1,q2,_,q3,rfl⟩
    · cases this
theorem aht {l:List Nat} (h:∀ f∈l,vw P f):∀ (k:Nat) (f:FuncId),vY f l=true→vw P f:=fun _ f hf=>h f (qd hf)
theorem adT {l:List (Nat × Sm)} (h:∀ p∈l,jK P p.1 p.2.s):∀ f m,lk f l=some m→jK P f m.s:=fun f m hm=>h _ (mE hm)
end
theorem all_nil {α:Type _} {q:α→Prop}:∀ p∈([]:List α),q p:=fun p hp=>by cases hp
theorem all_cons {α:Type _} {q:α→Prop} {x:α} {l:List α} (h:q x) (hl:∀ p∈l,q p):∀ p∈x :: l,q p:=fun p hp=>(List.mem_cons.1 hp).elim (fun e=>by rw [e];exact h) (hl p)
@[reducible] def gI (xs:List Int) (j:Int):Int:=xs.getD j.toNat 0
@[reducible] def gB (xs:List Bool) (j:Int):Bool:=xs.getD j.toNat false
@[reducible] def gS (xs:List P.S41) (j:Int):P.S41:=xs.getD j.toNat ⟨0,0⟩
@[reducible] def gG (xs:List P.S43) (j:Int):P.S43:=xs.getD j.toNat ⟨0,[]⟩
@[reducible] def gL (xs:List (List P.S41)) (j:Int):List P.S41:=xs.getD j.toNat []
@[reducible] def nO:PV:=.one .no
@[reducible] def nOs (n:Nat):List PV:=List.replicate n nO
end
end Go.Proofs.YtongeknogcboiaaGreat.M
namespace Go.Proofs.YtongeknogcboiaaGreat.P
open Go.RowKit Go.Proofs.YtongeknogcboiaaGreatW.fP Go.Proofs.YtongeknogcboiaaGreatW.gK Go.Proofs.YtongeknogcboiaaGreatW.iD
attribute [local go_sem] sK sM wm wo uH uI xD xE   -- for this text's walks alone
set_option linter.unusedVariables false
set_option linter.unusedSimpArgs false
theorem afU (d:Nat) (w:World) (x0 y0:Int) (x1 y1:Int) :
 (Op.equalIn (d+2) 41 (.agg #[.int .i64 x0,.int .i64 x1]) (.agg #[.int .i64 y0,.int .i64 y1])).run Tryz.prog w=.ok (x0==y0&&(x1==y1)) w:=by
 refine aeF Tryz.underlying41 (by kernel_rfl) ?_;refine abN (by rfl) (by go_simp;rfl) (by go_simp;rfl) (by go_simp) ?_;exact abM (by rfl) (by go_simp;rfl) (by go_simp;rfl) (by go_simp)
end Go.Proofs.YtongeknogcboiaaGreat.P
namespace Go.Proofs.YtongeknogcboiaaGreat.M
open Go.RowKit Go.Proofs.YtongeknogcboiaaGreatW.fP Go.Proofs.YtongeknogcboiaaGreatW.gK
def tL:TbL where
  sh:=[(1,false,1),(2,false,1),(3,false,1),(4,false,1),(5,false,1),(6,false,1),(7,true,4),(8,true,4),(9,false,1),(10,false,1),(11,false,1),(12,false,1),(13,true,2),(14,true,2),(15,false,1),(16,false,1),(17,false,1),(18,true,1),(19,true,1),(21,false,1),(22,false,1),(23,false,1),(24,true,4),(25,true,4),(26,false,1),(27,false,1),(28,false,1),(29,false,1),(31,false,1),(33,false,1),(35,false,1),(36,false,1),(37,false,1),(38,false,1),(39,false,1),(40,true,2),(41,true,2),(42,true,2),(43,true,2),(44,false,1),(45,false,1),(46,false,1),(47,false,1),(48,false,1),(50,false,1),(51,false,1),(52,false,1),(53,false,1),(54,false,1),(55,false,1),(57,false,1),(58,false,1),(59,false,1),(60,true,2),(61,false,1),(62,false,1),(64,false,1),(65,false,1),(66,false,1),(67,false,1),(69,false,1),(70,false,1),(71,false,1),(72,false,1),(73,false,1),(75,false,1),(76,false,1),(77,false,1),(78,false,1),(79,false,1),(80,false,1),(81,false,1),(82,false,1),(83,false,1),(84,false,1),(85,false,1),(86,false,1),(87,true,10),(88,true,10),(89,false,1),(90,false,1),(91,false,1),(93,false,1),(94,false,1),(95,false,1),(96,false,1),(97,false,1),(99,false,1),(100,false,1),(101,false,1),(102,false,1),(103,false,1),(104,false,1),(105,false,1),(106,true,4),(107,true,4),(108,false,1),(109,false,1),(110,false,1),(112,false,1),(113,false,1),(114,false,1),(115,false,1),(116,false,1),(118,false,1),(119,false,1),(120,false,1),(121,false,1),(122,false,1),(123,false,1),(124,false,1),(125,false,1),(126,false,1),(128,false,1),(129,false,1),(130,false,1),(131,false,1),(132,false,1),(133,false,1),(134,false,1),(135,false,1),(136,false,1),(137,false,1),(138,false,1),(139,false,1),(140,true,3),(141,true,3),(142,false,1),(143,false,1),(144,false,1),(145,false,1),(146,false,1),(147,false,1),(148,false,1),(149,false,1),(151,false,1),(152,false,1),(153,false,1),(154,false,1),(155,false,1),(156,false,1),(157,false,1),(158,false,1),(159,false,1),(160,false,1),(161,false,1),(162,false,1),(163,false,1),(164,false,1),(166,false,1),(167,false,1),(168,false,1),(169,false,1),(170,false,1),(171,false,1),(172,false,1),(173,false,1),(174,false,1),(175,false,1),(176,false,1),(177,false,1),(178,false,1),(179,false,1),(180,false,1),(181,false,1),(183,false,1),(184,false,1),(185,false,1),(186,false,1),(187,false,1),(188,false,1),(189,false,1),(190,false,1),(191,false,1),(192,false,1),(193,false,1),(194,false,1),(195,false,1),(196,false,1),(197,false,1),(198,false,1),(199,false,1),(200,false,1),(201,false,1),(202,false,1),(203,false,1),(204,false,1),(205,false,1),(206,false,1),(207,false,1),(208,false,1),(209,false,1),(210,true,4),(211,true,4),(213,true,0),(214,true,0),(215,false,1),(216,false,1),(217,false,1),(218,false,1),(219,false,1),(220,false,1),(221,false,1),(222,true,11),(223,true,11)]
  zc:=[(1,[.v .nilFunc]),(2,[.v (.int .i64 0)]),(3,[.v (.int .i64 0)]),(4,[.v (.bool false)]),(5,[.v (.int .u8 0)]),(6,[.v (.int .u8 0)]),(7,[.v (.int .i64 0),.v (.int .i64 0),.v (.bool false),.v (.int .u8 0)]),(8,[.v (.int .i64 0),.v (.int .i64 0),.v (.bool false),.v (.int .u8 0)]),(12,[.v (.int .u64 0)]),(21,[.v (.int .i32 0)]),(22,[.ow 28 (.sl 41 .sp) []]),(23,[.ow 43 .gr []]),(24,[.v (.int .i64 0),.v (.int .i64 0),.ow 28 (.sl 41 .sp) [],.ow 43 .gr []]),(25,[.v (.int .i64 0),.v (.int .i64 0),.ow 28 (.sl 41 .sp) [],.ow 43 .gr []]),(26,[.v .nilFunc]),(27,[.v .nilFunc]),(28,[.ow 41 .sp []]),(29,[.v (.int .i64 0)]),(31,[.v .nilFunc]),(33,[.v .nilFunc]),(35,[.v .nilFunc]),(36,[.ow 3 (.int .i64) []]),(37,[.v .nilFunc]),(38,[.v .nilFunc]),(39,[.v (.int .u64 0)]),(40,[.v (.int .i64 0),.v (.int .i64 0)]),(41,[.v (.int .i64 0),.v (.int .i64 0)]),(42,[.v (.int .i64 0),.ow 41 .sp []]),(43,[.v (.int .i64 0),.ow 41 .sp []]),(44,[.v .nilFunc]),(45,[.v .nilFunc]),(46,[.v .nilFunc]),(47,[.v .nilFunc]),(48,[.v .nilFunc]),(50,[.v .nilFunc]),(51,[.v .nilFunc]),(52,[.v .nilFunc]),(53,[.v (.int .i16 0)]),(54,[.v .nilFunc]),(55,[.v .nilFunc]),(57,[.v .nilFunc]),(58,[.v .nilFunc]),(59,[.v .nilFunc]),(60,[.v .nilFunc,.v .nilFunc]),(61,[.ow 60 .ff []]),(62,[.v .nilFunc]),(64,[.v .nilFunc]),(65,[.v .nilFunc]),(66,[.v .nilFunc]),(67,[.v .nilFunc]),(69,[.v .nilFunc]),(70,[.v .nilFunc]),(71,[.v .nilFunc]),(72,[.v .nilFunc]),(73,[.v .nilFunc]),(75,[.v .nilFunc]),(76,[.v .nilFunc]),(77,[.v .nilFunc]),(78,[.v .nilFunc]),(79,[.v .nilFunc]),(80,[.v .nilFunc]),(81,[.v .nilFunc]),(82,[.v .nilFunc]),(83,[.v .nilFunc]),(84,[.v .nilFunc]),(85,[.v .nilFunc]),(86,[.v .nilFunc]),(87,[.v (.int .i64 0),.v (.int .i64 0),.ow 28 (.sl 41 .sp) [],.ow 43 .gr [],.v (.int .i64 0),.v (.int .i64 0),.ow 28 (.sl 41 .sp) [],.ow 43 .gr [],.v (.int .i64 0),.ow 41 .sp []]),(88,[.v (.int .i64 0),.v (.int .i64 0),.ow 28 (.sl 41 .sp) [],.ow 43 .gr [],.v (.int .i64 0),.v (.int .i64 0),.ow 28 (.sl 41 .sp) [],.ow 43 .gr [],.v (.int .i64 0),.ow 41 .sp []]),(89,[.v .nilFunc]),(90,[.v .nilFunc]),(91,[.v .nilFunc]),(93,[.v .nilFunc]),(94,[.v .nilFunc]),(95,[.v .nilFunc]),(96,[.v .nilFunc]),(97,[.v .nilFunc]),(99,[.v .nilFunc]),(100,[.v .nilFunc]),(101,[.v .nilFunc]),(102,[.v .nilFunc]),(103,[.v .nilFunc]),(104,[.v .nilFunc]),(105,[.v .nilFunc]),(106,[.v (.int .i64 0),.v .nilFunc,.v .nilFunc,.v .nilFunc]),(107,[.v (.int .i64 0),.v .nilFunc,.v .nilFunc,.v .nilFunc]),(108,[.v .nilFunc]),(109,[.v .nilFunc]),(110,[.v .nilFunc]),(112,[.v .nilFunc]),(113,[.v .nilFunc]),(114,[.v .nilFunc]),(115,[.v .nilFunc]),(116,[.v .nilFunc]),(118,[.v .nilFunc]),(119,[.v .nilFunc]),(120,[.v .nilFunc]),(121,[.v .nilFunc]),(122,[.v .nilFunc]),(123,[.v .nilFunc]),(124,[.v .nilFunc]),(125,[.v .nilFunc]),(126,[.v .nilFunc]),(128,[.v .nilFunc]),(129,[.v .nilFunc]),(130,[.v .nilFunc]),(131,[.v .nilFunc]),(132,[.v .nilFunc]),(133,[.v .nilFunc]),(134,[.v .nilFunc]),(135,[.v .nilFunc]),(136,[.v .nilFunc]),(137,[.v .nilFunc]),(138,[.v .nilFunc]),(139,[.v .nilFunc]),(140,[.v (.int .i64 0),.v (.bool false),.v (.bool false)]),(141,[.v (.int .i64 0),.v (.bool false),.v (.bool false)]),(142,[.v .nilFunc]),(143,[.v .nilFunc]),(144,[.v (.int .u64 0)]),(145,[.v .nilFunc]),(146,[.v .nilFunc]),(147,[.v .nilFunc]),(148,[.v .nilFunc]),(151,[.v .nilFunc]),(152,[.v .nilFunc]),(153,[.v .nilFunc]),(154,[.v .nilFunc]),(155,[.v .nilFunc]),(156,[.v .nilFunc]),(157,[.v .nilFunc]),(158,[.v .nilFunc]),(159,[.v .nilFunc]),(160,[.v .nilFunc]),(161,[.v .nilFunc]),(162,[.v .nilFunc]),(163,[.v .nilFunc]),(164,[.v .nilFunc]),(166,[.v .nilFunc]),(167,[.v .nilFunc]),(168,[.v .nilFunc]),(169,[.v .nilFunc]),(170,[.v .nilFunc]),(171,[.v .nilFunc]),(172,[.ow 25 .fm []]),(173,[.v .nilFunc]),(174,[.v .nilFunc]),(175,[.v .nilFunc]),(176,[.v .nilFunc]),(177,[.v .nilFunc]),(178,[.v .nilFunc]),(179,[.v .nilFunc]),(180,[.v .nilFunc]),(181,[.v (.int .i64 0)]),(183,[.v .nilFunc]),(184,[.v .nilFunc]),(185,[.v .nilFunc]),(186,[.v .nilFunc]),(187,[.v .nilFunc]),(188,[.v (.int .u32 0)]),(189,[.v .nilFunc]),(190,[.v .nilFunc]),(191,[.v .nilFunc]),(192,[.v .nilFunc]),(193,[.v .nilFunc]),(194,[.v .nilFunc]),(195,[.v .nilFunc]),(196,[.v .nilFunc]),(197,[.v .nilFunc]),(198,[.v (.int .u64 0)]),(199,[.v .nilFunc]),(200,[.v .nilFunc]),(201,[.v .nilFunc]),(203,[.v .nilFunc]),(204,[.v .nilFunc]),(205,[.v .nilFunc]),(207,[.v .nilFunc]),(208,[.v .nilFunc]),(209,[.v .nilFunc]),(215,[.v .nilFunc]),(216,[.v (.int .u8 0)]),(217,[.v (.int .u8 0)]),(218,[.v .nilFunc]),(220,[.v (.int .i32 0)]),(221,[.v (.int .i32 0)])]
  fo:=[(7,[0,1,2,3]),(8,[0,1,2,3]),(13,[0,1]),(14,[0,1]),(18,[0]),(19,[0]),(24,[0,1,2,3]),(25,[0,1,2,3]),(40,[0,1]),(41,[0,1]),(42,[0,1]),(43,[0,1]),(60,[0,1]),(87,[0,4,8,9]),(88,[0,4,8,9]),(106,[0,1,2,3]),(107,[0,1,2,3]),(140,[0,1,2]),(141,[0,1,2]),(210,[0,1,2,3]),(211,[0,1,2,3]),(222,[0,1,2,3,4,5,6,7,8,9,10]),(223,[0,1,2,3,4,5,6,7,8,9,10])]
  el:=[(22,28,(.sl 41 .sp),24),(23,43,.gr,32),(28,41,.sp,16),(36,3,(.int .i64),8),(61,60,.ff,16),(172,25,.fm,64)]
  ik:=[(2,.i64),(3,.i64),(5,.u8),(6,.u8),(12,.u64),(21,.i32),(29,.i64),(39,.u64),(53,.i16),(144,.u64),(181,.i64),(188,.u32),(198,.u64),(216,.u8),(217,.u8),(220,.i32),(221,.i32)]
  bl:=[4]
  st:=[(7,[(0,1,2),(1,1,3),(2,1,4),(3,1,6)]),(8,[(0,1,2),(1,1,3),(2,1,4),(3,1,6)]),(13,[(0,1,9),(1,1,12)]),(14,[(0,1,9),(1,1,12)]),(18,[(0,1,17)]),(19,[(0,1,17)]),(24,[(0,1,3),(1,1,3),(2,1,22),(3,1,23)]),(25,[(0,1,3),(1,1,3),(2,1,22),(3,1,23)]),(40,[(0,1,3),(1,1,3)]),(41,[(0,1,3),(1,1,3)]),(42,[(0,1,3),(1,1,28)]),(43,[(0,1,3),(1,1,28)]),(60,[(0,1,35),(1,1,37)]),(87,[(0,4,25),(4,4,25),(8,1,3),(9,1,28)]),(88,[(0,4,25),(4,4,25),(8,1,3),(9,1,28)]),(106,[(0,1,3),(1,1,51),(2,1,104),(3,1,105)]),(107,[(0,1,3),(1,1,51),(2,1,104),(3,1,105)]),(140,[(0,1,3),(1,1,4),(2,1,4)]),(141,[(0,1,3),(1,1,4),(2,1,4)]),(210,[(0,1,17),(1,1,17),(2,1,17),(3,1,9)]),(211,[(0,1,17),(1,1,17),(2,1,17),(3,1,9)]),(222,[(0,1,12),(1,1,12),(2,1,188),(3,1,216),(4,1,5),(5,1,5),(6,1,217),(7,1,218),(8,1,219),(9,1,220),(10,1,221)]),(223,[(0,1,12),(1,1,12),(2,1,188),(3,1,216),(4,1,5),(5,1,5),(6,1,217),(7,1,218),(8,1,219),(9,1,220),(10,1,221)])]
  e2:=[41]
  mp:=[(149,3,3)]
theorem mixed:Tryz.prog.follows .mixedOrders=true:=by kernel_rfl
theorem afV:tL.Ok Tryz.prog where
  sh:=by kernel_rfl
  zc:=by kernel_rfl
  fo:=by kernel_rfl
  el:=by kernel_rfl
  ik:=by kernel_rfl
  bl:=by kernel_rfl
  st:=by kernel_rfl
  mp:=by kernel_rfl
  e2:=fun t ht op x y a0 a1 b0 b1 W=>by
    obtain rfl:t=41:=by
      have:=qd ht;simpa [tL] using this
    refine ⟨?_,P.afU 9998 W a0 b0 a1 b1⟩;have hg:Tryz.prog.eqGuardType Tryz.prog.depth 41=false:=by kernel_rfl
    unfold eqGuard;cases op
    case eql | neq =>
      simp only [Bool.not_true,Bool.false_eq_true,if_false,Sem.run_bind,program,Sem.run,Result.andThen_ok,hg,Bool.not_false,if_true,Sem.run_pure]
    all_goals simp
theorem ae3:nG Tryz.prog tL.tb:=TbL.ok afV
end Go.Proofs.YtongeknogcboiaaGreat.M
namespace Go.Proofs.YtongeknogcboiaaGreat.R
open M Go.RowKit Go.Proofs.YtongeknogcboiaaGreatW.fP Go.Proofs.YtongeknogcboiaaGreatW.gK Go.Proofs.YtongeknogcboiaaGreatW.iD
set_option linter.unusedVariables false
set_option linter.unusedSimpArgs false
theorem wpList_append_run {P:Program} {w:World} {ops:Array Oper} {rest:List Oper} {o:Oper} {a:Act} {Q:Exit→Act→World→Prop} (hgd:o.guard=none) (s x:Operand) (t:TypeId)
    (ho:o.op=.call { callee:=.builtin .append,args:=#[s,x],argTypes:=#[t,t] }) (y1 y2:Value) (hs:a.eval s=y1) (hx:a.eval x=y2)
    (v':Value) (w':World) (hr:(Builtin.append_ #[t,t] o.type #[y1,y2]).run P w=.ok v' w') (h:wpList P ops Q rest (a.put o.dst v') w'):wpList P ops Q (o :: rest) a w :=
  wpList_plain hgd fun _ hK=>by
    unfold Oper.wp execOp;simp only [ho,resolve,invoke,builtin,Sem.run_bind,Sem.run_pure,Result.andThen_ok,List.map_toArray,List.map_cons,List.map_nil,hs,hx,hr];exact hK _ _ h
theorem adU {P:Program} {f:FuncId} {fn:Func} {e:TypeId} {t:Ty} {F:List t.T→Option (List t.T)} (hf:P.funcs[f]? = some fn) (hn:(fn.name == "runtime.NumGoroutine")=false) (hb:fn.body.isSome=true)
    (h:∀ (nb:Nat) (g:Gh) (W:World) (ℓ:M.Loc) (A:Option Addr) (c:Nat) (xs x:List t.T),Wf g W→xs.length≤c→abD (t.R (lH g W)) t.sz (lH g W) A xs→F xs=some x →
      Calls P f #[.slice A xs.length c] W fun e0 W'=>∃ v,e0=.returned v∧∃ g',Wf g' W'∧Evo (fun _=>False) nb g W g' W'∧CR nb g' W' ℓ (.ow e t x) v):jK P f (jN [.sl e t] [.own e t] (fun a=>F a.1)).s:=by
  refine ⟨fn,hf,hn,hb,fun nb g W fr d ys vs r hw hl hy hs => ?_⟩;obtain ⟨o,ho,hr⟩:=Option.bind_eq_some_iff.mp hs;obtain ⟨a,ha,rfl⟩:=Option.map_eq_some_iff.mp ho;obtain ⟨x,hx,rfl⟩:=Option.map_eq_some_iff.mp hr;obtain ⟨g0,hg0⟩:∃ g0:Gh,g0={ ow:=fun _=>none,pr:=g.pr,bx:=g.bx,lr:=g.lr,lv:=g.lv,av:=g.av }:=⟨_,rfl⟩;have hpr:g0.pr=g.pr:=by rw [hg0]
  have how:∀ b,g0.ow b=none:=fun b=>by rw [hg0]
  obtain ⟨q1,q2⟩:=oM (nb':=nb) (g0:=g0) hpr ha (vs:=vs.toList) (by simpa using hl) (fun i x v h1 h2=>hy i x v h1 (by simpa using h2));obtain ⟨v,hv⟩:∃ v,vs=#[v]:=by
    have:vs.size=1:=by simpa [kI] using q1.symm
    exact ⟨vs[0],by
        ext i h1 h2;· simpa using this
        · simp at h2;subst h2;rfl⟩
  subst hv;obtain ⟨A,c,rfl,hc,hrow⟩:SlR (t.R (lH g0 W)) t.sz (lH g0 W) a.1 v:=q2 0 _ v rfl rfl 0 0;refine (h nb g0 W (M.Loc.tm fr d 0 0) A c a.1 x ⟨by rw [hpr];exact hw.pr,fun b ℓ e=>by rw [how] at e;cases e⟩ hc hrow hx).mono fun e0 W' ⟨v,he,g',k1,k5,k6⟩ => ?_;have hnone:∀ b,b<W.heap.size→g'.ow b=none:=fun b hb=>((k5.far b hb (fun ℓ e=>by rw [how] at e;cases e)).2.1).trans (how b);obtain ⟨c1,c2,c3⟩:CR nb g' W' (M.Loc.tm fr d 0 0) (.ow e t x) v:=k6;refine ⟨v,he,g.mix g' W.heap.size,⟨k1.pr,fun b ℓ hb => ?_⟩,rfl,⟨k5.os,k5.tape,k5.output,k5.size,fun b o hp=>k5.keep b o (by rw [hpr];exact hp),fun b hb _ => ?_,fun l _ hv=>⟨hv,rfl,rfl,rfl⟩⟩,⟨c1,c2,fun b hb=>⟨?_,(c3 b hb).2⟩⟩⟩
  · have hb:(if b<W.heap.size then g.ow b else g'.ow b)=some ℓ:=hb
    split at hb
    · rename_i hlt;exact Nat.lt_of_lt_of_le hlt k5.size
    · exact k1.ow b ℓ hb
  · obtain ⟨f1,f2,f3⟩:=k5.far b hb (fun ℓ e=>by rw [how] at e;cases e)
    exact ⟨f1,if_pos hb,fun o ho=>by rw [← hpr];exact f3 o ho⟩
  · show (if b<W.heap.size then g.ow b else g'.ow b)=_
    split
    · rename_i hlt;have:=(c3 b hb).1;rw [hnone b hlt] at this;cases this
    · exact (c3 b hb).1
theorem tel:tL.tb.el 28=some (41,.sp,16):=by kernel_rfl
def iw.f (k:Nat) (a0:List P.S41):Option (List P.S41):=if a0.length≤8796093022208 then some a0 else none
def iw.m (k:Nat):Sm:=jN [.sl 41 .sp] [.own 41 .sp] (fun a=>iw.f k a.1)
set_option maxRecDepth 100000 in
set_option maxHeartbeats 1000000 in
theorem iw.ok (k:Nat):jK Tryz.prog 123 (iw.m k).s:=by
  refine adU (e:=41) (t:=.sp) (F:=iw.f k) Tryz.func123 (by kernel_rfl) (by kernel_rfl) (fun nb g W ℓ A c xs x hw hc hrow hx => ?_);unfold iw.f at hx;split at hx
  case isFalse=>cases hx
  rename_i hm
  cases hx
  cases A with
  | none =>
    have hn:xs=[]:=by
      cases xs with
      | nil=>rfl
      | cons y r=>obtain ⟨b,o,vs,e1,_⟩:=hrow 0 y rfl;cases e1
    subst hn;have he:=Go.run_eql_slice_nil (P:=Tryz.prog) W 28 41 none 0 c Tryz.underlying28;go_enter Tryz.func123,Tryz.ntmps123;go_wp2;go_ret;exact ⟨_,rfl,g,hw,Evo.refl _ _ _ _,CR.nil⟩
  | some ad =>
    have he:=Go.run_eql_slice_nil (P:=Tryz.prog) W 28 41 (some ad) xs.length c Tryz.underlying28;obtain ⟨g1,hw1,hv1,hc1,hl1⟩:=aal (nb:=nb) hw (e:=41) (k:=.sp) (xs:=[]) (news:=[]) (Nat.zero_le _) rfl (fun i x hx=>by simp at hx) ℓ;obtain ⟨v',W',g',hrun,hw',hv',hc',hl'⟩:=rM (ty:=28) (nb:=nb) (P:=Tryz.prog) (T:=tL.tb) ae3 hw1 tel (ℓd:=ℓ) (z0:=true) hc1 (ys:=xs) (y:=.slice (some ad) xs.length c) ⟨some ad,c,rfl,hc,hrow.mono (Ty.kD hv1.cp .sp) hv1.cp⟩ (by simpa using hm);have hfin:=Lib.hid (⟨hw',(hv1.weaken (fun ℓ h=>h.elim) (Nat.le_refl _)).trans (hv'.weaken (fun ℓ h=>h.elim) (Nat.le_refl _)) (Nat.le_refl _),hc'⟩:Wf g' W'∧Evo (fun _=>False) nb g W g' W'∧CR nb g' W' ℓ (.ow 41 .sp ([]++xs)) v');have hrun':=Lib.hid hrun;clear hrow hw1 hv1 hc1 hl1 hw' hv' hc' hl' hrun hw hm;go_enter Tryz.func123,Tryz.ntmps123;go_wp2_with (at_builtin;refine wpList_append_run rfl _ _ 28 rfl _ _ rfl rfl v' W' hrun'.out ?_);go_ret;obtain ⟨k1,k2,k3⟩:=hfin.out;exact ⟨_,rfl,g',k1,k2,k3⟩
end Go.Proofs.YtongeknogcboiaaGreat.R
namespace Go.Proofs.YtongeknogcboiaaGreat.P
set_option linter.unusedVariables false
set_option linter.unusedSimpArgs false
open Go.RowKit Go.Proofs.YtongeknogcboiaaGreatW.fP Go.Proofs.YtongeknogcboiaaGreatW.gK Go.Proofs.YtongeknogcboiaaGreatW.iD
def iQ.l0:Nat→Int→Int→Option Int
  | 0,_,_=>none
  | k+1,x0,x1=>if x1=0 then some x0 else iQ.l0 k x1 (Int.tmod x0 x1)
def iQ.f (k:Nat) (a0 a1:Int):Option Int:=if 0≤a0∧0≤a1 then iQ.l0 k a0 a1 else none
theorem iQ.ac2:∀ k y0 y1,LeO (iQ.l0 k y0 y1) (iQ.l0 (k+1) y0 y1)
  | 0,_,_=>fun r h=>by simp [iQ.l0] at h
  | k+1,y0,y1=>by
    unfold iQ.l0;exact LeO.ite (LeO.refl _) (iQ.ac2 k _ _)
theorem iQ.mono:∀ a0 a1 k,LeO (iQ.f k a0 a1) (iQ.f (k+1) a0 a1):=by
  intro a0 a1 k;unfold iQ.f;exact LeO.ite (iQ.ac2 k _ _) (LeO.none _)
set_option maxHeartbeats 8000000 in
set_option maxRecDepth 100000 in
theorem iQ.calls (k:Nat) (a0 a1:Int) (r:Int) (w:World) (h:iQ.f k a0 a1=some r) :
    Calls Tryz.prog 150 #[.int .u64 a0,.int .u64 a1] w fun e w'=>e=.returned (.int .u64 r)∧Below w.heap.size w w':=by
  unfold iQ.f at h;by_cases hp:0≤a0∧0≤a1
  case neg=>rw [if_neg hp] at h;cases h
  rw [if_pos hp] at h;have HP:=ou.mk hp;have HH:=ou.mk h;clear h hp;go_enter Tryz.func150,Tryz.ntmps150;go_wp2;refine wp_scope_jumps 0 (fun a' w'=>∃ (kq:Nat) (x0 x1:Int) (u2 u3 u5 u6 u7 u8 u9 aa ab:Value),a'={ tmps:=#[.int .u64 x0,.int .u64 x1,u2,u3,.int .u64 0,u5,u6,u7,u8,u9,aa,ab],defers:=[] }∧ou (iQ.l0 kq x0 x1=some r)∧ou (0≤x0∧0≤x1)∧ou (Below w.heap.size w w')) (fun a' _=>(intOf (a'.tmps.getD 1 undef)).toNat) rfl ?_ ?_
  · cases k with
    | zero=>exact absurd HH.out (by simp [iQ.l0])
    | succ k1 =>
      have H:=HH.out;simp only [iQ.l0] at H;by_cases c:a1=0
      · rw [if_pos c] at H
        have c0:(a1==0)=true:=beq_iff_eq.mpr c;have c1:(a1 != 0)=false:=bne_eq_false_iff_eq.mpr c;obtain rfl:=Option.some.inj H;clear c;go_wp2;go_step3;go_wp2;repeat (go_quiet (fail);try go_wp2)
        simp only [Exit.jump];go_ret;exact ⟨rfl,by repeat (first | exact Below.refl _ _ | apply lQ | apply lq | apply mI)⟩
      · rw [if_neg c] at H
        have c0:(a1==0)=false:=beq_eq_false_iff_ne.mpr c;have c1:(a1 != 0)=true:=bne_iff_ne.mpr c;have HA:=ou.mk H;clear H HH;go_wp2;go_step3;go_wp2;repeat (go_quiet (fail);try go_wp2)
        go_step3
        exact ⟨rfl,k1,a1,Int.tmod a0 a1,_,_,_,_,_,_,_,_,_,rfl,HA,⟨HP.out.2,Int.tmod_nonneg _ HP.out.1⟩,⟨by repeat (first | exact Below.refl _ _ | apply lQ | apply lq | apply mI)⟩⟩
  · rintro a' w' ⟨kq,x0,x1,u2,u3,u5,u6,u7,u8,u9,aa,ab,rfl,HA,HX,HB⟩
    cases kq with
    | zero=>exact absurd HA.out (by simp [iQ.l0])
    | succ k1 =>
      have H:=HA.out;simp only [iQ.l0] at H;by_cases c:x1=0
      · rw [if_pos c] at H
        have c0:(x1==0)=true:=beq_iff_eq.mpr c;have c1:(x1 != 0)=false:=bne_eq_false_iff_eq.mpr c;obtain rfl:=Option.some.inj H;clear c HA;go_wp2;repeat (go_quiet (fail);try go_wp2)
        simp only [Exit.jump];go_ret;exact ⟨rfl,by repeat (first | exact HB.out | apply lQ | apply lq | apply mI)⟩
      · rw [if_neg c] at H
        have c0:(x1==0)=false:=beq_eq_false_iff_ne.mpr c;have c1:(x1 != 0)=true:=bne_iff_ne.mpr c;have ms:ou ((Int.tmod x0 x1).toNat<x1.toNat):=⟨by
          have h1:=Int.tmod_lt_of_pos x0 (show 0<x1 by have:=HX.out.2;omega);have:=HX.out.2;omega⟩
        have HA:=ou.mk H;clear H;go_wp2;repeat (go_quiet (fail);try go_wp2)
        go_step3
        exact ⟨rfl,⟨k1,x1,Int.tmod x0 x1,_,_,_,_,_,_,_,_,_,rfl,HA,⟨HX.out.2,Int.tmod_nonneg _ HX.out.1⟩,⟨by repeat (first | exact HB.out | apply lQ | apply lq | apply mI)⟩⟩,ms.out⟩
end Go.Proofs.YtongeknogcboiaaGreat.P
namespace Go.Proofs.YtongeknogcboiaaGreat.M
set_option linter.unusedVariables false
open Go.RowKit Go.Proofs.YtongeknogcboiaaGreatW.fP Go.Proofs.YtongeknogcboiaaGreatW.gK
theorem aaR {A:Loc→Prop} {nb:Nat} {g:Gh} {W W':World} (hw:Wf g W) (h:Below W.heap.size W W'):Wf g W'∧Evo A nb g W g W' :=
  ⟨⟨fun b o hp=>Nat.lt_of_lt_of_le (hw.pr b o hp) h.size,fun b ℓ hp=>Nat.lt_of_lt_of_le (hw.ow b ℓ hp) h.size⟩,h.os,h.tape,h.output,h.size,fun b o hp=>⟨hp,fun v hv=>by
    unfold World.cell? at hv ⊢;simp only at hv ⊢;rw [h.block b (hw.pr b o hp)];exact hv⟩,fun b hb _=>⟨h.block b hb,rfl,fun _ h=>h⟩,fun _ _ hl=>⟨hl,rfl,rfl,rfl⟩⟩
end Go.Proofs.YtongeknogcboiaaGreat.M
namespace Go.Proofs.YtongeknogcboiaaGreat.R
open M Go.RowKit Go.Proofs.YtongeknogcboiaaGreatW.fP Go.Proofs.YtongeknogcboiaaGreatW.gK Go.Proofs.YtongeknogcboiaaGreatW.iD
set_option linter.unusedVariables false
def iQ.f (k:Nat) (a0 a1:Int):Option Int:=P.iQ.f k a0 a1
noncomputable def iQ.m (k:Nat):Sm:=jN [.int .u64,.int .u64] [.pl (.int .u64)] (fun a=>iQ.f k a.1 a.2.1)
theorem iQ.ok (k:Nat):jK Tryz.prog 150 (iQ.m k).s:=by
  refine ⟨Tryz.f150,Tryz.func150,by kernel_rfl,by kernel_rfl,fun nb g W fr d ys vs r hw hl hy hs => ?_⟩;obtain ⟨o,ho,hr⟩:=Option.bind_eq_some_iff.mp hs;obtain ⟨a,ha,rfl⟩:=Option.map_eq_some_iff.mp ho;obtain ⟨x,hx,rfl⟩:=Option.map_eq_some_iff.mp hr;obtain ⟨q1,q2⟩:=oM (nb':=nb) (g0:=g) rfl ha (vs:=vs.toList) (by simpa using hl) (fun i x v hx hv fr' i'=>hy i x v hx (by simpa using hv) fr' i');obtain ⟨x0,x1,_⟩:=a;have e:vs=#[.int .u64 x0,.int .u64 x1]:=by
    have e0:∃ u0 u1,vs.toList=[u0,u1]:=by
      have:vs.toList.length=2:=q1.symm
      match vs.toList,this with
      | [u0,u1],_=>exact ⟨u0,u1,rfl⟩
    obtain ⟨u0,u1,e0⟩:=e0;rw [e0] at q2;have h0:u0=.int .u64 x0∧_:=q2 0 _ _ rfl rfl 0 0;have h1:u1=.int .u64 x1∧_:=q2 1 _ _ rfl rfl 0 0;rw [h0.1,h1.1] at e0;exact Array.toList_inj.1 e0
  rw [e];refine (P.iQ.calls k x0 x1 x W hx).mono ?_;rintro e W' ⟨rfl,hb⟩;obtain ⟨k1,k2⟩:=aaR (A:=fun _=>True) (nb:=nb) hw hb;exact ⟨_,rfl,g,k1,rfl,k2,⟨rfl,rfl⟩⟩
end Go.Proofs.YtongeknogcboiaaGreat.R
namespace Go.Proofs.YtongeknogcboiaaGreat.M
noncomputable section
set_option linter.unusedVariables false
open Go.RowKit Go.Proofs.YtongeknogcboiaaGreatW.fP Go.Proofs.YtongeknogcboiaaGreatW.gK
theorem iO {β:Type} {L G:Nat→β} (T:β→Nat→β) (h0:L 0=G 0) (hL:∀ k,L (k+1)=T (L k) k) (hG:∀ k,G (k+1)=T (G k) k):∀ k,L k=G k
  | 0=>h0
  | k+1=>by rw [hL,hG,iO T h0 hL hG k]
def mkE (sm:List (Nat × Sm)) (nw:List Nat):pV:=⟨tL.tb,fun f=>lk f sm,fun f=>vY f nw⟩
def mkA (mv:List Nat) (l x:List (Nat × List Nat)) (gh:List (Nat × List GOp × List GOp)):Ann:=⟨fun d=>vY d mv,fun c=>lk c l,fun c=>lk c x,fun _=>none,fun c=>(lk c gh).getD ([],[])⟩
def mkC {γ:Type} (E:Nat→pV) (fl:List (Nat × Func)) (an:List (Nat × Ann)) (lp:List (LpE γ)) (yd:List (YdE γ)):Ctx γ:=⟨E,fl,fun f=>(lk f an).getD (mkA [] [] [] []),lp,yd⟩
theorem jA {q:Prop} (h:false=true):q:=(Bool.false_ne_true h).elim
theorem wV {P:Program} {f:FuncId} {ts:List Ty} {rs:List RT} {F:mZ ts→Option (r9 rs)} (hF:∀ a,F a=none) (fn:Func) (hf:P.funcs[f]? = some fn) (hn:(fn.name == "runtime.NumGoroutine")=false) (hb:fn.body.isSome=true):jK P f (jN ts rs F).s :=
  ⟨fn,hf,hn,hb,fun nb g W fr d ys vs r _ _ _ hs=>by
    unfold jN Sm.s at hs;simp only at hs;cases h:ng ts ys with
    | none=>rw [h] at hs;cases hs
    | some a=>rw [h] at hs;simp [hF] at hs⟩
theorem okW {rs:List RT} {sm:Nat→List (Nat × Sm)} {nw:List Nat} {fl:List (Nat × Func)} {an:List (Nat × Ann)} {lp:List (LpE (r9 rs))} {yd:List (YdE (r9 rs))} (h:(mkC (fun k=>mkE (sm k) nw) fl an lp yd).Ok) (n:Nat) {f:Nat} (fn:Func) (k:Nat) {ts:List Ty} {F:mZ ts→Option (r9 rs)}
    (hN:∀ g∈nw,vw Tryz.prog g) (hS:∀ k,∀ p∈sm k,jK Tryz.prog p.1 p.2.s) (hF:∀ p∈fl,Tryz.prog.funcs[p.1]? = some p.2∧(p.2.name == "runtime.NumGoroutine")=false) (hl:∀ e∈lp,iX (mkC (fun k=>mkE (sm k) nw) fl an lp yd) e)
    (aa:lk f fl=some fn) (hb:fn.body.isSome=true) (hw:∀ a:mZ ts,(mkC (fun k=>mkE (sm k) nw) fl an lp yd).bK n f fn k (kI ts a) (K0 rs)=F a):jK Tryz.prog f (jN ts rs F).s :=
  acC (C:=mkC (fun k=>mkE (sm k) nw) fl an lp yd) h (n:=n) (fn:=fn) mixed (fun _=>ae3) (aht hN) (fun k=>adT (hS k)) hF hl aa hb (fun a x hx=>⟨k,(hw a).trans hx⟩)
theorem Ctx.Ok.lT {γ:Type} {C:Ctx γ} (h:C.Ok) {n f cur:Nat} (fn:Func) {l:List (PS × (HdK γ→Nat→(gy→St→Option γ)→List Lf→Option γ))} (ins:List Nat) (hf:lk f C.fl=some fn)
    (hn:((lZ (lnd fn cur).c (lnd fn cur).cur).all fun p => !C.has f p.key || vY p.key ins)=true) (hin:(oh fn).any (fun p=>Nat.beq p.key cur)=true) (hl:∀ e∈C.lp,rkB n f ins e=true→iX C e)
    (he:∀ q∈l,∀ YK rl k ls K v,q.2 YK k K ls=some v→C.lK n f cur fn YK rl (q.1.mk' ls).bx.length k (q.1.mk' ls) K=some v):iX C ⟨n,f,cur,jD l⟩:=h.lpE ins hf hn hin hl he
theorem Ctx.Ok.agO {γ:Type} {C:Ctx γ} (h:C.Ok) {r:Option Nat} {n f cur:Nat} (fn:Func) {l:List (PS × (HdK γ→Nat→(gy→St→Option γ)→List Lf→Option γ))} (ins:List Nat) (hf:lk f C.fl=some fn)
    (hn:((lZ (lnd fn cur).c (lnd fn cur).cur).all fun p => !C.has f p.key || vY p.key ins)=true) (hin:(oh fn).any (fun p=>Nat.beq p.key cur)=true) (hl:∀ e∈C.lp,rkB n f ins e=true→iX C e)
    (he:∀ q∈l,∀ YK k ls K v,q.2 YK k K ls=some v→C.lK n f cur fn YK r (q.1.mk' ls).bx.length k (q.1.mk' ls) K=some v):iX C ⟨n,f,cur,aex r l⟩:=h.lpR ins hf hn hin hl he
end
end Go.Proofs.YtongeknogcboiaaGreat.M

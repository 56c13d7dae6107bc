/- A part of the proof. -/
import Derived.Test.YtgepceljhelekaaGreatPBAc
import Derived.IntWalk
set_option maxRecDepth 100000
set_option maxHeartbeats 64000000
set_option linter.all false
noncomputable section
namespace Go.Eng
open Go
def RLe{α:Type}(r r':R α):Prop:=∀o,r=.ok o->r'=.ok o
section
variable{α γ:Type}
def RLe.refl(r:R α):RLe r r:=λ_ h=>h
def RLe.bad(s:String)(r:R α):RLe (.bad s) r:=λ_ h=>by cases h
def RLe.dg{f f':α->R γ}:∀(l:List α),(∀x∈l,RLe (f x) (f' x))->RLe (Eng.dg f l) (Eng.dg f' l)
 |[],_=>RLe.refl _
 |[x],h=>h x (List.mem_singleton.2 rfl)
 |x::y::l,h=>by
  have h1:=h x (bh ..);have h2:=RLe.dg (y::l) λz hz=>h z (aU _ hz);intro o ho;have Z3:zC (f x) (Eng.dg f (y::l))=.ok o:=ho;show zC (f' x) (Eng.dg f' (y::l))=.ok o;cases ha:f x with
  |bad s=>rw[ha]at Z3;cases Z3
  |ok oa=>
   cases hb:Eng.dg f (y::l)with
   |bad s=>rw[ha,hb]at Z3;cases Z3
   |ok ob=>rw[ha,hb]at Z3;rw[h1 oa ha,h2 ob hb];exact Z3
def RLe.bind{r r':R α}{f f':α->R γ}(hr:RLe r r')(hf:∀x,RLe (f x) (f' x)):RLe (r.bind f) (r'.bind f'):=by
 cases r with
 |bad s=>exact RLe.bad _ _
 |ok l=>rw[hr l rfl];exact RLe.dg l λx _=>hf x
def RLe.ifE{b:Bool}{x x' y y':R α}(hx:RLe x x')(hy:RLe y y'):RLe (Eng.ifE b x y) (Eng.ifE b x' y'):=by cases b with|true=>exact hx|false=>exact hy
def RLe.aB{o:Option γ}{e e':R α}{f f':γ->R α}(he:RLe e e')(h:∀a,RLe (f a) (f' a)):RLe (Eng.aB o e f) (Eng.aB o e' f'):=by cases o with|none=>exact he|some a=>exact h a
end
def RLe.join{h:Hp}{r r':R (AV×Hp)}(hr:RLe r r'):RLe (xG h r) (xG h r'):=by
 cases r with
 |bad s=>exact RLe.bad _ _
 |ok l=>rw[hr l rfl];exact RLe.refl _
def RLe.nQ{b:Bool}{h:Hp}{r r':R (ax×ag×Hp)}(hr:RLe r r'):RLe (nQ b h r) (nQ b h r'):=by
 cases b with
 |false=>exact hr
 |true=>
  cases r with
  |bad s=>exact RLe.bad _ _
  |ok l=>rw[hr l rfl];exact RLe.refl _
structure RH(rec rec':Rec):Prop where
 code:∀r c a h,RLe (rec.code r c a h) (rec'.code r c a h)
 call:∀f l h,RLe (rec.call f l h) (rec'.call f l h)
def KG{tm:PT AV}{g:Option (Option Tmp×Bool)}{y y' n n':R (ag×Hp)}(hy:RLe y y')(hn:RLe n n'):RLe (cy tm g y n) (cy tm g y' n'):=by
 unfold cy;refine RLe.aB hy λp=>RLe.aB hn λt=>RLe.aB hn λv=>?_;cases v with
 |one c=>cases c with|b b=>exact RLe.ifE (RLe.ifE hy hn) (RLe.ifE hn hy)|i _ _=>exact hn|o _=>exact RLe.refl _
 |agg _=>exact hn
 |tup _=>exact hn
 |any=>exact RLe.refl _
def Ff{e:ax}{n n' r r':R (ax×ag×Hp)}{x x':Nat->R (ax×ag×Hp)}(hn:RLe n n')(hx:∀i,RLe (x i) (x' i))(hr:RLe r r'):RLe (exE e n x r) (exE e n' x' r'):=by
 cases e with
 |normal=>exact hn
 |exit i=>exact hx i
 |ret=>exact hr
def mu{a:ag}{dst:Option Tmp}{v:AV}{h:Hp}{k k':ag->Hp->R (ag×Hp)}(hk:∀a h,RLe (k a h) (k' a h)):RLe (iJ a dst v h k) (iJ a dst v h k'):=
 RLe.aB (hk _ _) λ_=>RLe.ifE (hk _ _) (RLe.refl _)
section
variable{E:Env}{rec rec':Rec}(hr:RH rec rec')
include hr
theorem JN{id:Nat}{body:Code}(x:ax×ag×Hp):RLe (fW rec id body x) (fW rec' id body x):=by
 unfold fW;split
 ·exact RLe.bind (hr.code _ _ _ _) λy=>RLe.refl _
 exact RLe.refl _
theorem Ap{id:Nat}{args:List AV}{h:Hp}:RLe (iL rec id args h) (iL rec' id args h):=by
 unfold iL;split
 ·exact RLe.ifE (RLe.bind (hr.code _ _ _ _) λx=>JN hr x) (RLe.refl _)
 exact RLe.refl _
theorem wG{h:Hp}{n:aj}:RLe (lk E rec h n) (lk E rec' h n):=by
 cases n with
 |val v h'=>exact RLe.refl _
 |sX l=>exact RLe.refl _
 |enter f args=>exact RLe.aB (RLe.aB (hr.call _ _ _) λ_=>RLe.refl _) λ_=>RLe.refl _
 |round id args=>exact Ap hr
 |bad s=>exact RLe.refl _
theorem VG{a:ag}{dst:Option Tmp}{h:Hp}{k k':ag->Hp->R (ag×Hp)}{n:aj}(hk:∀a h,RLe (k a h) (k' a h)):RLe (pD E rec a dst h k n) (pD E rec' a dst h k' n):=by
 cases n with
 |val v h'=>exact mu hk
 |sX l=>exact RLe.dg l λx _=>mu hk
 |enter f args=>exact RLe.bind (RLe.aB (RLe.aB (hr.call _ _ _) λ_=>RLe.refl _) λ_=>RLe.refl _) λx=>mu hk
 |round id args=>exact RLe.bind (Ap hr) λx=>mu hk
 |bad s=>exact RLe.refl _
theorem qa:∀(l:List OF)(a:ag)(h:Hp),RLe (fA E rec l a h) (fA E rec' l a h)
 |[],_,_=>RLe.refl _
 |o::l,a,h=>KG (VG hr λa h=>qa l a h) (mu λa h=>qa l a h)
omit hr in
theorem SW{kk j:Nat}{a:ag}{dst:Option Tmp}{h:Hp}{sub:PT aX}{us did:List Did}{K K':List Did->ag->Hp->R (ag×Hp)}{x x':R (AV×Hp)}(hx:RLe x x')(hK:∀d a h,RLe (K d a h) (K' d a h)):
  RLe (Ai kk j a dst h sub us did K x) (Ai kk j a dst h sub us did K' x'):=by
 cases x with
 |bad s=>exact RLe.bad _ _
 |ok l=>
  rw[hx l rfl];cases l with
  |nil=>exact RLe.refl _
  |cons y l=>
   cases l with
   |cons _ _=>exact RLe.refl _
   |nil=>exact RLe.ifE (mu λa h=>hK _ a h) (RLe.refl _)
theorem rZ:∀(l:List OF)(j:Nat)(ms:List Nat)(did:List Did)(a:ag)(h:Hp),RLe (dH E rec l j ms did a h) (dH E rec' l j ms did a h)
 |[],_,_,_,_,_=>RLe.refl _
 |o::l,j,[],did,a,h=>RLe.refl _
 |o::l,j,m::ms,did,a,h=>KG (SW (wG hr) λd a h=>rZ l _ ms d a h) (mu λa h=>rZ l _ ms did a h)
theorem Lq{r:Option Nat}{f:OpF}{ps:List Tmp}{as bo:Code}{a:ag}{h:Hp}:RLe (jw E rec r f ps as bo a h) (jw E rec' r f ps as bo a h):=by
 unfold jw;split
 ·exact RLe.refl _
 split
 ·exact RLe.ifE (RLe.bind (hr.call _ _ _) λx=>RLe.refl _) (RLe.refl _)
 exact RLe.refl _
theorem fQ:∀(c:Code)(r:Option Nat)(a:ag)(h:Hp),RLe ((codeF E c).run rec r a h) ((codeF E c).run rec' r a h):=by
 intro c;induction c with
 |skip=>intro r a h;exact RLe.refl _
 |region id ops draw=>
  intro r a h;cases draw with
  |false=>exact RLe.bind (qa hr _ a h) λx=>RLe.refl _
  |true=>
   show RLe ((Eng.ifE (fY ops) (CF.mk λrec _ a h=>(dH E rec (tQ E.P ops) 0 (fE [] 0 ops.toList) [] a h).bind gz) (CF.mk λ_ _ _ _=>.bad "draw - slots")).run rec r a h)
    ((Eng.ifE (fY ops) (CF.mk λrec _ a h=>(dH E rec (tQ E.P ops) 0 (fE [] 0 ops.toList) [] a h).bind gz) (CF.mk λ_ _ _ _=>.bad "draw - slots")).run rec' r a h)
   cases fY ops with
   |false=>exact RLe.refl _
   |true=>exact RLe.bind (rZ hr _ _ _ _ a h) λx=>RLe.refl _
 |seq x y hx hy=>intro r a h;exact RLe.bind (hx r a h) λz=>Ff (hy r _ _) (λ_=>RLe.refl _) (RLe.refl _)
 |cond c x y hx hy=>
  intro r a h;show RLe (fw ((opF c).ev a.tm) (.bad "cond") λb=>Eng.ifE b ((codeF E x).run rec r a h) ((codeF E y).run rec r a h)) (fw ((opF c).ev a.tm) (.bad "cond") λb=>Eng.ifE b ((codeF E x).run rec' r a h) ((codeF E y).run rec' r a h))
  cases(opF c).ev a.tm with
  |one q=>
   cases q with
   |b b=>exact RLe.ifE (hx r a h) (hy r a h)
   |i _ _=>exact RLe.refl _
   |o _=>exact RLe.refl _
  |agg _=>exact RLe.refl _
  |tup _=>exact RLe.refl _
  |any=>exact RLe.refl _
 |block id x hx=>intro r a h;exact RLe.nQ (RLe.bind (hx r a h) λz=>RLe.refl _)
 |loop x hx=>intro r a h;exact RLe.bind (hx r a h) λz=>Ff (hr.code _ _ _ _) (λ_=>RLe.refl _) (RLe.refl _)
 |rangeFunc f ps as bo _ _=>intro r a h;exact Lq hr
 |exit id=>intro r a h;exact RLe.refl _
 |scope x hx=>intro r a h;exact hx r a h
 |label l=>intro r a h;exact RLe.refl _
 |goto l=>intro r a h;exact RLe.refl _
 |ret=>intro r a h;exact RLe.refl _
 |refuse x=>intro r a h;exact RLe.refl _
theorem PV{f:FuncId}{args:List AV}{h:Hp}:RLe (mI E rec f args h) (mI E rec' f args h):=by
 unfold mI Tt;split
 ·split
  ·exact RLe.ifE (RLe.join (RLe.bind (fQ hr _ none _ h) λx=>RLe.refl _)) (RLe.refl _)
  exact RLe.refl _
 exact RLe.refl _
end
def wH(E:Env):∀n,RH (eval E n) (eval E (n+1))
 |0=>⟨λ_ _ _ _=>RLe.bad _ _,λ_ _ _=>RLe.bad _ _⟩
 |n+1=>⟨λr c a h=>fQ (wH E n) c r a h,λf l h=>PV (wH E n)⟩
def eL(E:Env){n:Nat}:∀{k:Nat},n<=k->RH (eval E n) (eval E k)
 |0,h=>by have:n=0:=aa;subst this;exact⟨λ_ _ _ _=>RLe.refl _,λ_ _ _=>RLe.refl _⟩
 |k+1,h=>by
  by_cases e:n=k+1
  ·subst e;exact⟨λ_ _ _ _=>RLe.refl _,λ_ _ _=>RLe.refl _⟩
  have h1:=eL E (n:=n) (k:=k) aa;have h2:=wH E k;exact⟨λr c a h o ho=>h2.code r c a h o (h1.code r c a h o ho),λf l h o ho=>h2.call f l h o (h1.call f l h o ho)⟩
def C1(E:Env)(f:FuncId)(args:List AV)(H:Hp)(Q:AV->Hp->Prop):Prop:=∃n v H',(eval E n).call f args H=.ok [(v,H')]/\Q v H'
def R1(E:Env)(r:Option Nat)(c:Code)(A:ag)(H:Hp)(Q:ax->ag->Hp->Prop):Prop:=∃n e A' H',(codeF E c).run (eval E n) r A H=.ok [(e,A',H')]/\Q e A' H'
def O1(E:Env)(l:List OF)(A:ag)(H:Hp)(Q:ag->Hp->Prop):Prop:=∃n A' H',fA E (eval E n) l A H=.ok [(A',H')]/\Q A' H'
def D1(E:Env)(l:List OF)(j:Nat)(ms:List Nat)(did:List Did)(A:ag)(H:Hp)(Q:ag->Hp->Prop):Prop:=∃n A' H',dH E (eval E n) l j ms did A H=.ok [(A',H')]/\Q A' H'
def N1(E:Env)(H:Hp)(n:aj)(Q:AV->Hp->Prop):Prop:=∃k v H',lk E (eval E k) H n=.ok [(v,H')]/\Q v H'
section
variable{E:Env}
def C1.mono{f:FuncId}{args:List AV}{H:Hp}{Q Q':AV->Hp->Prop}(h:C1 E f args H Q)(hq:∀v H',Q v H'->Q' v H'):C1 E f args H Q':=
 let ⟨n,v,H',h1,h2⟩:=h;⟨n,v,H',h1,hq _ _ h2⟩
def R1.mono{r:Option Nat}{c:Code}{A:ag}{H:Hp}{Q Q':ax->ag->Hp->Prop}(h:R1 E r c A H Q)(hq:∀e A' H',Q e A' H'->Q' e A' H'):R1 E r c A H Q':=
 let ⟨n,e,A',H',h1,h2⟩:=h;⟨n,e,A',H',h1,hq _ _ _ h2⟩
def O1.mono{l:List OF}{A:ag}{H:Hp}{Q Q':ag->Hp->Prop}(h:O1 E l A H Q)(hq:∀A' H',Q A' H'->Q' A' H'):O1 E l A H Q':=
 let ⟨n,A',H',h1,h2⟩:=h;⟨n,A',H',h1,hq _ _ h2⟩
def Thn(K:ag->Hp->Prop)(Q:ax->ag->Hp->Prop):ax->ag->Hp->Prop
 |.normal,A,H=>K A H
 |.exit i,A,H=>Q (.exit i) A H
 |.ret,A,H=>Q .ret A H
def InB(id:Nat)(Q:ax->ag->Hp->Prop):ax->ag->Hp->Prop
 |.normal,A,H=>Q .normal A H
 |.exit i,A,H=>if i=id then Q .normal A H else Q (.exit i) A H
 |.ret,A,H=>Q .ret A H
variable{r:Option Nat}{A:ag}{H:Hp}{Q:ax->ag->Hp->Prop}
def R1.skip(h:Q .normal A H):R1 E r .skip A H Q:=⟨0,_,_,_,rfl,h⟩
def R1.exit{id:Nat}(h:Q (.exit id) A H):R1 E r (.exit id) A H Q:=⟨0,_,_,_,rfl,h⟩
def R1.ret(h:Q .ret A H):R1 E r .ret A H Q:=⟨0,_,_,_,rfl,h⟩
def R1.scope{c:Code}(h:R1 E r c A H Q):R1 E r (.scope c) A H Q:=h
def R1.seq{x y:Code}(h:R1 E r x A H (Thn (λA H=>R1 E r y A H Q) Q)):R1 E r (.seq x y) A H Q:=by
 obtain⟨n,e,A1,H1,h1,h2⟩:=h;cases e with
 |normal=>obtain⟨k,e2,A2,H2,h3,h4⟩:=h2;refine⟨max n k,e2,A2,H2,?_,h4⟩;have a1:=fQ (eL E (rO n k)) x r A H _ h1;have a2:=fQ (eL E (pd n k)) y r A1 H1 _ h3;show((codeF E x).run (eval E (max n k)) r A H).bind (wZ (codeF E y) (eval E (max n k)) r)=_;rw[a1];exact a2
 |exit i=>refine⟨n,_,A1,H1,?_,h2⟩;show((codeF E x).run (eval E n) r A H).bind (wZ (codeF E y) (eval E n) r)=_;rw[h1];rfl
 |ret=>refine⟨n,_,A1,H1,?_,h2⟩;show((codeF E x).run (eval E n) r A H).bind (wZ (codeF E y) (eval E n) r)=_;rw[h1];rfl
def R1.cond{c:Operand}{x y:Code}{b:Bool}(hc:ev A.tm c=.one (.b b))(h:R1 E r (if b=true then x else y) A H Q):R1 E r (.cond c x y) A H Q:=by
 obtain⟨n,e,A1,H1,h1,h2⟩:=h;refine⟨n,e,A1,H1,?_,h2⟩;show fw (ev A.tm c) (.bad "cond") (λb=>Eng.ifE b ((codeF E x).run (eval E n) r A H) ((codeF E y).run (eval E n) r A H))=_
 rw[hc];cases b with
 |true=>exact h1
 |false=>exact h1
def Qo(b:Bool)(h:Hp)(x:ax×ag×Hp):nQ b h (.ok [x])=.ok [x]:=by cases b<;>rfl
def R1.block{id:Nat}{c:Code}(h:R1 E r c A H (InB id Q)):R1 E r (.block id c) A H Q:=by
 obtain⟨n,e,A1,H1,h1,h2⟩:=h;have key:∀e2,mF id (e,A1,H1)=.ok [(e2,A1,H1)]->Q e2 A1 H1->R1 E r (.block id c) A H Q:=λe2 a b=>⟨n,e2,A1,H1,by show nQ (E.jn id) H (((codeF E c).run (eval E n) r A H).bind (mF id))=_;rw[h1];show nQ (E.jn id) H (mF id (e,A1,H1))=_;rw[a,Qo],b⟩
 cases e with
 |normal=>exact key .normal rfl h2
 |ret=>exact key .ret rfl h2
 |exit i=>
  have h2':if i=id then Q .normal A1 H1 else Q (.exit i) A1 H1:=h2;by_cases hi:i=id
  ·rw[ad hi]at h2';refine key .normal ?_ h2';show Eng.ifE (Nat.beq i id) (R.ok [((.normal:ax),A1,H1)]) (R.ok [(.exit i,A1,H1)])=_;rw[hi,cN];rfl
  rw[ab hi]at h2';refine key (.exit i) ?_ h2';show Eng.ifE (Nat.beq i id) (R.ok [((.normal:ax),A1,H1)]) (R.ok [(.exit i,A1,H1)])=_;have:Nat.beq i id=false:=by
   cases hb:Nat.beq i id with
   |false=>rfl
   |true=>exact absurd (aN hb) hi
  rw[this];rfl
def R1.round{c:Code}(h:R1 E r c A H (Thn (λA H=>R1 E r (.loop c) A H Q) Q)):R1 E r (.loop c) A H Q:=by
 obtain⟨n,e,A1,H1,h1,h2⟩:=h;cases e with
 |normal=>obtain⟨k,e2,A2,H2,h3,h4⟩:=h2;refine⟨max n k+1,e2,A2,H2,?_,h4⟩;have a1:=fQ (eL E (show n<=max n k+1 by omega)) c r A H _ h1;have a2:(eval E (max n k+1)).code r (.loop c) A1 H1=.ok [(e2,A2,H2)]:=fQ (eL E (pd n k)) (.loop c) r A1 H1 _ h3;show((codeF E c).run (eval E (max n k+1)) r A H).bind (AY (eval E (max n k+1)) r c)=_;rw[a1];exact a2
 |exit i=>refine⟨n,_,A1,H1,?_,h2⟩;show((codeF E c).run (eval E n) r A H).bind (AY (eval E n) r c)=_;rw[h1];rfl
 |ret=>refine⟨n,_,A1,H1,?_,h2⟩;show((codeF E c).run (eval E n) r A H).bind (AY (eval E n) r c)=_;rw[h1];rfl
def R1.loop{c:Code}(I:Nat->ag->Hp->Prop)(hI:∀k A H,I k A H->R1 E r c A H (Thn (λA' H'=>∃k',k'<k/\I k' A' H') Q)):∀(k:Nat){A:ag}{H:Hp},I k A H->R1 E r (.loop c) A H Q:=by
 intro k;induction k using Nat.strongRecOn with
 |ind k ih=>
  intro A H h;refine R1.round ((hI k A H h).mono λe A' H' hq=>?_);cases e with
  |normal=>obtain⟨k',hk,h'⟩:=hq;exact ih k' hk h'
  |exit i=>exact hq
  |ret=>exact hq
def R1.region{id:Nat}{ops:Array Oper}(h:O1 E (tQ E.P ops) A H λA H=>Q .normal A H):R1 E r (.region id ops false) A H Q:=by obtain⟨n,A1,H1,h1,h2⟩:=h;refine⟨n,.normal,A1,H1,?_,h2⟩;show(fA E (eval E n) (tQ E.P ops) A H).bind gz=_;rw[h1];rfl
def R1.draw{id:Nat}{ops:Array Oper}(hs:fY ops=true)(h:D1 E (tQ E.P ops) 0 (fE [] 0 ops.toList) [] A H λA H=>Q .normal A H):R1 E r (.region id ops true) A H Q:=by
 obtain⟨n,A1,H1,h1,h2⟩:=h;refine⟨n,.normal,A1,H1,?_,h2⟩;show(Eng.ifE (fY ops) (CF.mk λrec _ a h=>(dH E rec (tQ E.P ops) 0 (fE [] 0 ops.toList) [] a h).bind gz) (CF.mk λ_ _ _ _=>.bad "draw - slots")).run (eval E n) r A H=_
 rw[hs];show(dH E (eval E n) (tQ E.P ops) 0 (fE [] 0 ops.toList) [] A H).bind gz=_;rw[h1];rfl
def N1.val{H H':Hp}{v:AV}{Q:AV->Hp->Prop}(h:Q v H'):N1 E H (.val v H') Q:=⟨0,v,H',rfl,h⟩
def N1.call{H:Hp}{f:FuncId}{args:List AV}{Q:AV->Hp->Prop}(hp:E.eu f args=none)(hq:E.dW f args H=none)(h:C1 E f args H Q):N1 E H (.enter f args) Q:=by obtain⟨n,v,H',h1,h2⟩:=h;refine⟨n,v,H',?_,h2⟩;show aB (E.eu f args) (aB (E.dW f args H) ((eval E n).call f args H) λx=>.ok [(x.1,H.mod x.2.1 x.2.2)]) (λv=>.ok [(v,H)])=_;rw[hp,hq];exact h1
def N1.dW{H:Hp}{f:FuncId}{args:List AV}{x:AV×Nat×aX}{Q:AV->Hp->Prop}(hp:E.eu f args=none)(hq:E.dW f args H=some x)(h:Q x.1 (H.mod x.2.1 x.2.2)):N1 E H (.enter f args) Q:=by refine⟨0,x.1,H.mod x.2.1 x.2.2,?_,h⟩;show aB (E.eu f args) (aB (E.dW f args H) ((eval E 0).call f args H) λx=>.ok [(x.1,H.mod x.2.1 x.2.2)]) (λv=>.ok [(v,H)])=_;rw[hp,hq];rfl
def N1.eu{H:Hp}{f:FuncId}{args:List AV}{v:AV}{Q:AV->Hp->Prop}(hp:E.eu f args=some v)(h:Q v H):N1 E H (.enter f args) Q:=by refine⟨0,v,H,?_,h⟩;show aB (E.eu f args) (aB (E.dW f args H) ((eval E 0).call f args H) λx=>.ok [(x.1,H.mod x.2.1 x.2.2)]) (λv=>.ok [(v,H)])=_;rw[hp];rfl
def cE(A:ag)(d:Option Tmp)(v:AV):ag:=aB d A λd=>A.put d v
def bc(d:Option Tmp)(nt:Nat):Bool:=match d with|none=>true|some d=>Nat.blt d nt
def kS{a:ag}{d:Option Tmp}{v:AV}{h:Hp}{k:ag->Hp->R (ag×Hp)}(hd:bc d a.nt=true):iJ a d v h k=k (cE a d v) h:=by
 cases d with
 |none=>rfl
 |some d=>
  show Eng.ifE (Nat.blt d a.nt) (k (a.put d v) h) (.bad "slot")=_
  have:Nat.blt d a.nt=true:=hd;rw[this];rfl
def O1.nil{Q:ag->Hp->Prop}(h:Q A H):O1 E [] A H Q:=⟨0,A,H,rfl,h⟩
def O1.cons{g:Option (Option Tmp×Bool)}{d:Option Tmp}{f:SF}{o:Oper}{l:List OF}{Q:ag->Hp->Prop}(hg:∀y n:R (ag×Hp),cy A.tm g y n=y)(hd:bc d A.nt=true)
  (h:N1 E H (f.run A.tm H) λv H'=>O1 E l (cE A d v) H' Q):O1 E (⟨g,d,f,o⟩::l) A H Q:=by
 obtain⟨n,v,H1,h1,k,A2,H2,h2,h3⟩:=h;refine⟨max n k,A2,H2,?_,h3⟩;have a1:=wG (E:=E) (eL E (rO n k)) _ h1;have a2:=qa (E:=E) (eL E (pd n k)) l (cE A d v) H1 _ h2;show cy A.tm g (pD E (eval E (max n k)) A d H (fA E (eval E (max n k)) l) (f.run A.tm H)) (iJ A d aP H (fA E (eval E (max n k)) l))=_;rw[hg];have e:pD E (eval E (max n k)) A d H (fA E (eval E (max n k)) l) (f.run A.tm H)=(lk E (eval E (max n k)) H (f.run A.tm H)).bind λx=>iJ A d x.1 x.2 (fA E (eval E (max n k)) l):=by cases f.run A.tm H<;>rfl
 rw[e,a1];show iJ A d v H1 (fA E (eval E (max n k)) l)=_;rw[kS hd];exact a2
def O1.PI{g:Option (Option Tmp×Bool)}{d:Option Tmp}{f:SF}{o:Oper}{l:List OF}{Q:ag->Hp->Prop}(hg:∀y n:R (ag×Hp),cy A.tm g y n=n)(hd:bc d A.nt=true)
  (h:O1 E l (cE A d aP) H Q):O1 E (⟨g,d,f,o⟩::l) A H Q:=by
 obtain⟨k,A2,H2,h2,h3⟩:=h;refine⟨k,A2,H2,?_,h3⟩;show cy A.tm g (pD E (eval E k) A d H (fA E (eval E k) l) (f.run A.tm H)) (iJ A d aP H (fA E (eval E k) l))=_;rw[hg,kS hd];exact h2
def C1.XD{f:FuncId}{fn:Func}{c:Code}{args:List AV}{Q:AV->Hp->Prop}(hf:E.P.funcs[f]?=some fn)(hb:fn.body=some c)(hn:args.length<=fn.ntmps)(E4:fn.ntmps<=1048576)
  (h:R1 E none c ⟨setArgs args 0 .leaf,fn.ntmps,[]⟩ H λe A' H'=>∃v H2,aH E fn.results.toList (e,A',H')=.ok [(v,H2)]/\Q v H2):C1 E f args H Q:=by
 obtain⟨n,e,A',H',h1,v,H2,h2,h3⟩:=h;refine⟨n+1,v,H2,?_,h3⟩;show mI E (eval E n) f args H=_;unfold mI Tt;rw[hf];simp only[hb];show Eng.ifE (both (Nat.ble (vk args) fn.ntmps) (Nat.ble fn.ntmps 1048576)) (xG H (((codeF E c).run (eval E n) none ⟨setArgs args 0 .leaf,fn.ntmps,[]⟩ H).bind (aH E fn.results.toList))) (.bad "too many arguments")=_
 have e1:Nat.ble (vk args) fn.ntmps=true:=bG hn;have e2:Nat.ble fn.ntmps 1048576=true:=bG E4;rw[e1,e2];show xG H (((codeF E c).run (eval E n) none ⟨setArgs args 0 .leaf,fn.ntmps,[]⟩ H).bind (aH E fn.results.toList))=_;rw[h1];have e3:R.bind (R.ok [(e,A',H')]) (aH E fn.results.toList)=aH E fn.results.toList (e,A',H'):=rfl;rw[e3,h2];rfl
end
def slot(tm:PT AV)(t:Nat):AV:=aB (tm.get t) aP λv=>v
abbrev ko(t:PT AV)(a b:Tmp)(m n:AC)(r:Prop):Prop:=slot t a=.one m/\slot t b=.one n/\r
abbrev gU(t:PT AV)(a b c:Tmp)(m n o:AC)(r:Prop):Prop:=slot t a=.one m/\ko t b c n o r
abbrev wy(t:PT AV)(a b c d:Tmp)(m n o p:AC)(r:Prop):Prop:=slot t a=.one m/\gU t b c d n o p r
abbrev MC(t:PT AV)(a b c d e:Tmp)(m n o p q:AC)(r:Prop):Prop:=slot t a=.one m/\wy t b c d e n o p q r
abbrev VT(t:PT AV)(a b c d e f:Tmp)(m n o p q s:AC)(r:Prop):Prop:=slot t a=.one m/\MC t b c d e f n o p q s r
abbrev aak(t:PT AV)(a b:Tmp)(m n:AC)  : Prop:=slot t a=.one m/\slot t b=.one n
abbrev aal(t:PT AV)(a b c:Tmp)(m n o:AC)  : Prop:=slot t a=.one m/\aak t b c n o
abbrev aam(t:PT AV)(a b c d:Tmp)(m n o p:AC)  : Prop:=slot t a=.one m/\aal t b c d n o p
abbrev aan(t:PT AV)(a b c d e:Tmp)(m n o p q:AC)  : Prop:=slot t a=.one m/\aam t b c d e n o p q
abbrev aao(t:PT AV)(a b c d e f:Tmp)(m n o p q s:AC)  : Prop:=slot t a=.one m/\aan t b c d e f n o p q s
abbrev aap(t:PT AV)(a b c d e f g:Tmp)(m n o p q s u:AC)  : Prop:=slot t a=.one m/\aao t b c d e f g n o p q s u
abbrev aaq(t:PT AV)(a b c d e f g h:Tmp)(m n o p q s u v:AC)  : Prop:=slot t a=.one m/\aap t b c d e f g h n o p q s u v
abbrev aar(t:PT AV)(a b c d e f g h i:Tmp)(m n o p q s u v w:AC)  : Prop:=slot t a=.one m/\aaq t b c d e f g h i n o p q s u v w
abbrev eK(A:ag)(a:Tmp)(m:AC)(N:Nat)(D:List Nat):Prop:=slot A.tm a=.one m/\A.nt=N/\A.dfr=D
abbrev kO(A:ag)(a b:Tmp)(m n:AC)(N:Nat)(D:List Nat):Prop:=slot A.tm a=.one m/\eK A b n N D
abbrev pF(A:ag)(a b c:Tmp)(m n o:AC)(N:Nat)(D:List Nat):Prop:=slot A.tm a=.one m/\kO A b c n o N D
abbrev yf(A:ag)(a b c d:Tmp)(m n o p:AC)(N:Nat)(D:List Nat):Prop:=slot A.tm a=.one m/\pF A b c d n o p N D
abbrev aas(A:ag)(a b c d e:Tmp)(m n o p q:AC)(N:Nat)(D:List Nat):Prop:=slot A.tm a=.one m/\yf A b c d e n o p q N D
abbrev MD(A:ag)(a b c d e f:Tmp)(m n o p q s:AC)(N:Nat)(D:List Nat):Prop:=slot A.tm a=.one m/\aas A b c d e f n o p q s N D
abbrev aat(A:ag)(a b c d e f g:Tmp)(m n o p q s u:AC)(N:Nat)(D:List Nat):Prop:=slot A.tm a=.one m/\MD A b c d e f g n o p q s u N D
abbrev aau(A:ag)(a b c d e f g h:Tmp)(m n o p q s u v:AC)(N:Nat)(D:List Nat):Prop:=slot A.tm a=.one m/\aat A b c d e f g h n o p q s u v N D
abbrev dk(A:ag)(x0 x1 x2 x3 x4 x5 x6:Nat)(x7:Int)(r:Prop):Prop:=slot A.tm 4=.one (.o (.ptr x0 0 0 1))/\slot A.tm 5=.one (.o (.ptr x1 0 0 1))/\slot A.tm 6=.one (.o (.ptr x2 0 0 1))/\slot A.tm 7=.one (.o (.ptr x3 0 0 1))/\slot A.tm 8=.one (.o (.ptr x4 0 0 1))/\slot A.tm 9=.one (.o (.ptr x5 0 0 1))/\slot A.tm 10=.one (.o (.ptr x6 0 0 1))/\slot A.tm 11=.one (.i .i64 x7)/\r
abbrev cZ(A:ag)(x0 x1 x2:Nat)(x3:Int)(r:Prop):Prop:=slot A.tm 0=.one (.o (.sl x0 x1 0 x2 3))/\slot A.tm 1=.one (.i .i64 x3)/\r
abbrev BJ(A:ag)(x0 x1 x2 x3 x4 x5 x6 x7:Nat)(x8 x9:Int)(r:Prop):Prop:=slot A.tm 2=.one (.o (.ptr x0 0 0 1))/\slot A.tm 4=.one (.o (.ptr x1 0 0 1))/\slot A.tm 6=.one (.o (.sl x2 0 0 x3 1))/\slot A.tm 9=.one (.o (.clo 68 [(x4,0,0,1),(x5,0,0,2)]))/\slot A.tm 10=.one (.o (.clo 69 [(x6,0,0,1),(x7,0,0,2)]))/\slot A.tm 45=.one (.i .i64 x8)/\slot A.tm 46=.one (.i .i64 x9)/\r
abbrev hY(A:ag)(x0 x1:Int)(r:Prop):Prop:=slot A.tm 12=.one (.i .i64 x0)/\slot A.tm 13=.one (.i .i64 x1)/\r
abbrev jc(A:ag)(x0 x1:Int)(r:Prop):Prop:=slot A.tm 10=.one (.i .i64 x0)/\slot A.tm 11=.one (.i .i64 x1)/\r
abbrev dw(A:ag)(x0:Int)(r:Prop):Prop:=slot A.tm 3=.one (.i .i64 x0)/\r
abbrev lW(A:ag)(x0 x1:Int)(r:Prop):Prop:=slot A.tm 11=.one (.i .i64 x0)/\slot A.tm 12=.one (.i .i64 x1)/\r
abbrev lX(A:ag)(x0:Int)(x1:Nat)(r:Prop):Prop:=slot A.tm 16=.one (.i .i64 x0)/\slot A.tm 17=.one (.o (.ptr x1 0 0 2))/\r
abbrev eJ(A:ag)(x0:Int)(r:Prop):Prop:=slot A.tm 2=.one (.i .i64 x0)/\r
abbrev fI(A:ag)(x0:Int)(r:Prop):Prop:=slot A.tm 8=.one (.i .i64 x0)/\r
abbrev ea(A:ag)(x0:Nat)(r:Prop):Prop:=slot A.tm 1=.one (.o (.ptr x0 0 0 2))/\r
abbrev lU(A:ag)(x0 x1:Int)(r:Prop):Prop:=slot A.tm 9=.one (.i .i64 x0)/\slot A.tm 10=.one (.i .i64 x1)/\r
abbrev px(A:ag)(x0:AC)(x1 x2:Int)(r:Prop):Prop:=slot A.tm 123=.one x0/\slot A.tm 124=.one (.i .i64 x1)/\slot A.tm 125=.one (.i .i64 x2)/\r
abbrev mW(A:ag)(x0 x1:Nat)(r:Prop):Prop:=slot A.tm 2=.one (.o (.ptr x0 0 0 1))/\slot A.tm 3=.one (.o (.ptr x1 0 0 1))/\r
abbrev py(A:ag)(x0 x1:Int)(r:Prop):Prop:=slot A.tm 23=.one (.i .i64 x0)/\slot A.tm 24=.one (.i .i64 x1)/\r
abbrev gT(A:ag)(x0:Int)(r:Prop):Prop:=slot A.tm 7=.one (.i .i64 x0)/\r
abbrev iB(A:ag)(x0:Nat)(r:Prop):Prop:=slot A.tm 2=.one (.o (.ptr x0 0 0 2))/\r
abbrev ja(A:ag)(x0:Int)(r:Prop):Prop:=slot A.tm 1=.one (.i .i64 x0)/\r
abbrev jb(A:ag)(x0:Nat)(r:Prop):Prop:=slot A.tm 4=.one (.o (.ptr x0 0 0 1))/\r
abbrev kh(A:ag)(x0:Nat)(r:Prop):Prop:=slot A.tm 11=.one (.o (.ptr x0 0 0 7))/\r
abbrev iC(A:ag)(x0 x1 x2:Nat)(r:Prop):Prop:=slot A.tm 0=.one (.o (.sl x0 x1 0 x2 4))/\r
abbrev rV(A:ag)(x0 x1 x2 x3:Nat)(r:Prop):Prop:=slot A.tm 4=.one (.o (.sl x0 0 0 x1 1))/\slot A.tm 5=.one (.o (.sl x2 0 0 x3 1))/\r
abbrev xl(A:ag)(x0 x1 x2 x3:Nat)(x4 x5:Int):Prop:=slot A.tm 26=.one (.o (.sl x0 x1 x2 x3 2))/\slot A.tm 27=.one (.i .i64 x4)/\slot A.tm 28=.one (.i .i64 x5)/\A.nt=102/\A.dfr=[]
abbrev mX(A:ag)(x0:Int)(r:Prop):Prop:=slot A.tm 12=.one (.i .i64 x0)/\r
abbrev lV(A:ag)(x0:Nat)(r:Prop):Prop:=slot A.tm 9=.one (.o (.ptr x0 0 0 1))/\r
abbrev xm(A:ag)(x0 x1 x2 x3:Nat)(x4 x5:Int)(r:Prop):Prop:=slot A.tm 19=.one (.o (.sl x0 x1 x2 x3 2))/\slot A.tm 20=.one (.i .i64 x4)/\slot A.tm 21=.one (.i .i64 x5)/\r
abbrev xo(A:ag)(x0 x1:Int):Prop:=slot A.tm 18=.one (.i .i64 x0)/\slot A.tm 19=.one (.i .i64 x1)/\A.nt=115/\A.dfr=[]
abbrev pz(A:ag)(x0:Int)(r:Prop):Prop:=slot A.tm 9=.one (.i .i64 x0)/\r
abbrev mY(A:ag)(x0:Nat)(r:Prop):Prop:=slot A.tm 19=.one (.o (.ptr x0 0 0 1))/\r
def mE:=zDm @ko.eq_1 @gU.eq_1 @wy.eq_1 @MC.eq_1 @VT.eq_1 @aak.eq_1 @aal.eq_1 @aam.eq_1 @aan.eq_1 @aao.eq_1 @aap.eq_1 (zDm @aaq.eq_1 @aar.eq_1 @eK.eq_1 @kO.eq_1 @pF.eq_1 @yf.eq_1 @aas.eq_1 @MD.eq_1 @aat.eq_1 @aau.eq_1 @dk.eq_1 (zDm @cZ.eq_1 @BJ.eq_1 @hY.eq_1 @jc.eq_1 @dw.eq_1 @lW.eq_1 @lX.eq_1 @eJ.eq_1 @fI.eq_1 @ea.eq_1 @lU.eq_1 (zDm @px.eq_1 @mW.eq_1 @py.eq_1 @gT.eq_1 @iB.eq_1 @ja.eq_1 @jb.eq_1 @kh.eq_1 @iC.eq_1 @rV.eq_1 @xl.eq_1 (zDg @mX.eq_1 @lV.eq_1 @xm.eq_1 @xo.eq_1 @pz.eq_1 @mY.eq_1))))
def NJ(tm:PT AV)(f:FuncId):ev tm (.func f)=.one (.o (.clo f [])):=rfl
def Tk(tm:PT AV)(k:IntKind)(n:Int):ev tm (.const (.int k n))=.one (.i k n):=rfl
def NI(tm:PT AV)(b:Bool):ev tm (.const (.bool b))=.one (.b b):=rfl
def Tl(tm:PT AV)(s:ByteArray):ev tm (.const (.string s))=.one (.o (.str s.data.toList)):=rfl
def NN(tm:PT AV):ev tm (.const (.slice none 0 0))=.one (.o .nilS):=rfl
def an(A:ag)(d t:Nat)(v:AV):slot (cE A (some d) v).tm t=if t=d then v else slot A.tm t:=by
 show aB ((A.tm.set d v).get t) aP (λv=>v)=_;rw[PT.eQ];by_cases h:t=d
 ·subst h;rw[ad rfl,ad rfl];rfl
 rw[ab h,ab h];rfl
def DT(A:ag)(v:AV):cE A none v=A:=rfl
def bE(A:ag)(d:Option Tmp)(v:AV):(cE A d v).nt=A.nt:=by cases d<;>rfl
def aS(A:ag)(d:Option Tmp)(v:AV):(cE A d v).dfr=A.dfr:=by cases d<;>rfl
def xD:∀(l:List AV)(k:Nat)(tm:PT AV)(t:Nat),k+l.length<=1048576->(setArgs l k tm).get t=if k<=t/\t<k+l.length then l[t-k]? else tm.get t
 |[],k,tm,t,_=>by show tm.get t=_;rw[ab (by simp only[List.length_nil];omega)]
 |v::l,k,tm,t,h=>by
  simp only[List.length_cons]at h;show(setArgs l (k+1) (tm.set k v)).get t=_;rw[xD l (k+1) (tm.set k v) t aa,PT.sb _ _ _ _ aa];simp only[List.length_cons];by_cases h1:t=k
  ·subst h1;rw[ab aa,ad rfl,ad aa];simp
  by_cases h2:k+1<=t/\t<k+1+l.length
  ·rw[ad h2,ad aa];have:t-k=(t-(k+1))+1:=aa;rw[this];simp
  rw[ab h2,ab h1,ab aa]
def Rc(l:List AV)(t:Nat)(h:l.length<=1048576):slot (setArgs l 0 .leaf) t=(l[t]?).getD aP:=by
 unfold slot;rw[xD l 0 .leaf t aa];by_cases h1:t<l.length
 ·rw[ad ⟨Nat.zero_le _,aa⟩,Nat.sub_zero,aO h1];rfl
 rw[ab aa,iw aa];rfl
section
variable{P:Program}{tm:PT AV}{H:Hp}{d:Option Tmp}{ty:TypeId}{pos:String}{af:Array Edge}{g:Option (Nat×Bool)}
def ON{α:Type}{o:Option α}{a:α}{s:String}{f:α->SF}(h:o=some a):(ndF o s f).run tm H=(f a).run tm H:=by subst h;rfl
def OT(t:TypeId)(x:Operand){p:Bool×Nat}(h:loadT P t=some p):(aQ P ⟨d,.load t x,ty,pos,af,g⟩).run tm H=dB H p.1 p.2 (ev tm x):=ON h
def Kg(t:TypeId)(x y:Operand){n:Nat}(h:cD P t=some n):(aQ P ⟨d,.store t x y,ty,pos,af,g⟩).run tm H=kD H n (ev tm y) (ev tm x):=ON h
def NO:evs [] tm=[]:=rfl
def Ie(x:Operand)(l:List Operand):evs (x::l) tm=ev tm x::evs l tm:=rfl
end
section
variable{H:Hp}{alt:aj}
structure Fr(X:Nat->Prop)(H H':Hp):Prop where
 nx:H.nx<=H'.nx
 get:∀i,i<H.nx->¬X i->H'.get i=H.get i
 log:∃l,H'.log=l++H.log/\∀i∈l,H.nx<=i\/X i
abbrev Gr(H H':Hp):Prop:=Fr (λ_=>False) H H'
def Fr.refl{X:Nat->Prop}(H:Hp):Fr X H H:=⟨ai _,λ_ _ _=>rfl,[],rfl,λ_ h=>by cases h⟩
def Fr.trans{X:Nat->Prop}{H1 H2 H3:Hp}(h:Fr X H1 H2)(k:Fr (λi=>H1.nx<=i\/X i) H2 H3):Fr X H1 H3 where
 nx:=aD h.nx k.nx
 get:=λi hi hx=>by rw[k.get i (ay hi h.nx) (λh=>h.elim aa hx),h.get i hi hx]
 log:=by
  obtain⟨l,e,hl⟩:=h.log;obtain⟨l',e',hl'⟩:=k.log;refine⟨l'++l,by rw[e',e,bW],λi hi=>?_⟩;rcases List.mem_append.1 hi with hi|hi
  ·rcases hl' i hi with h1|h1
   ·exact .inl (aD h.nx h1)
   exact h1
  exact hl i hi
def Fr.mono{X Y:Nat->Prop}{H H':Hp}(h:Fr X H H')(hxy:∀i,X i->Y i):Fr Y H H':=⟨h.nx,λi hi hy=>h.get i hi λhx=>hy (hxy i hx),by obtain⟨l,e,hl⟩:=h.log;exact⟨l,e,λi hi=>(hl i hi).imp id (hxy i)⟩⟩
def Fr.then{X Y:Nat->Prop}{H1 H2 H3:Hp}(h:Fr X H1 H2)(k:Fr Y H2 H3)(hy:∀i,Y i->H1.nx<=i\/X i):Fr X H1 H3:=h.trans (k.mono hy)
def Fr.gr{X:Nat->Prop}{H1 H2 H3:Hp}(h:Fr X H1 H2)(k:Gr H2 H3):Fr X H1 H3:=h.trans (k.mono λ_ h=>h.elim)
def Fr.new{X:Nat->Prop}{H H':Hp}(h:Fr X H H')(o:aX):Fr X H (H'.new o)where
 nx:=aD h.nx (Nat.le_succ _)
 get:=λi hi hx=>by show(H'.t.set H'.nx o).get i=_;rw[PT.eQ,ab (by have:=h.nx;omega)];exact h.get i hi hx
 log:=h.log
def Fr.mod{X:Nat->Prop}{H H':Hp}(h:Fr X H H'){i:Nat}(o:aX)(hi:H.nx<=i\/X i):Fr X H (H'.mod i o)where
 nx:=h.nx
 get:=λj hj hx=>by
  show(H'.t.set i o).get j=_;have I1:j≠i:=λe=>by subst e;exact hi.elim aa hx
  rw[PT.eQ,ab I1];exact h.get j hj hx
 log:=by
  obtain⟨l,e,hl⟩:=h.log;refine⟨i::l,by show i::H'.log=_;rw[e];rfl,λj hj=>?_⟩;rcases List.mem_cons.1 hj with rfl|hj
  ·exact hi
  exact hl j hj
def Fr.none{H H':Hp}(h:Gr H H'){X:Nat->Prop}:Fr X H H':=Fr.mono h λ_ h=>h.elim
def No{β:Type}(b:Bool)(e:β)(f:Bool->β):fw (.one (.b b)) e f=f b:=rfl
end
inductive GW where
 |yes
 |no
 |lost
def gw(g:Option (Option Tmp×Bool))(tm:PT AV):GW:=
 match g with
 |none=>.yes
 |some (none,_)=>.no
 |some (some t,w)=>match slot tm t with|.one (.b b)=>if b=w then .yes else .no|.tup _=>.no|_=>.lost
def CN(E:Env)(H:Hp)(n:aj)(next:AV->Hp->Prop):Prop:=
 ∀lg,N1 E ⟨H.t,H.nx,lg⟩ n λv h'=>∀lg',(∀X,Fr X ⟨H.t,H.nx,lg⟩ h'->Fr X H ⟨h'.t,h'.nx,lg'⟩)->next v ⟨h'.t,h'.nx,lg'⟩
def CN.n1{E:Env}{H:Hp}{n:aj}{next:AV->Hp->Prop}(h:CN E H n next):N1 E H n next:=
 let ⟨k,v,H',h1,h2⟩:=h H.log;⟨k,v,H',h1,h2 H'.log λ_ h=>h⟩
def WT(E:Env)(A:ag)(d:Option Tmp)(next:ag->Hp->Prop)(H:Hp)(n:aj):Prop:=
 match n with
 |.val v H'=>next (cE A d v) H'
 |.enter f args=>CN E H (.enter f args) λv H'=>next (cE A d v) H'
 |.round id args=>CN E H (.round id args) λv H'=>next (cE A d v) H'
 |_=>False
def WU(E:Env)(o:Oper)(A:ag)(H:Hp)(next:ag->Hp->Prop)(g:GW):Prop:=
 match g with
 |.yes=>WT E A o.dst next H ((aQ E.P o).run A.tm H)
 |.no=>next (cE A o.dst aP) H
 |.lost=>False
def WO(E:Env)(ops:List Oper)(Q:ag->Hp->Prop):List Oper->ag->Hp->Prop
 |[],A,H=>Q A H
 |o::l,A,H=>bc o.dst A.nt=true/\WU E o A H (WO E ops Q l) (gw (gOf ops o.guard) A.tm)
def WT.n1{E:Env}{A:ag}{d:Option Tmp}{next:ag->Hp->Prop}{H:Hp}{n:aj}(h:WT E A d next H n):N1 E H n λv H'=>next (cE A d v) H':=by
 cases n with
 |val v H'=>exact N1.val h
 |enter f args=>exact CN.n1 h
 |sX l=>exact h.elim
 |round id args=>exact CN.n1 h
 |bad s=>exact h.elim
def qu(g:Option (Option Tmp×Bool))(tm:PT AV):(gw g tm=.yes/\∀a b:R (ag×Hp),cy tm g a b=a)\/(gw g tm=.no/\∀a b:R (ag×Hp),cy tm g a b=b)\/gw g tm=.lost:=by
 cases g with
 |none=>exact .inl ⟨rfl,λ_ _=>rfl⟩
 |some p=>
  obtain⟨t,w⟩:=p;cases t with
  |none=>exact .inr (.inl ⟨rfl,λ_ _=>rfl⟩)
  |some t=>
   have e:∀a b:R (ag×Hp),cy tm (some (some t,w)) a b=aB (tm.get t) b λv=>AV.rec (motive:=λ_=>R (ag×Hp)) (λc=>acE c (λx=>ifE x (ifE w a b) (ifE w b a)) (λ_ _=>b) (λ_=>.bad "guard")) (λ_=>b) (λ_=>b) (.bad "guard") v:=λ_ _=>rfl
   have e2:gw (some (some t,w)) tm=match slot tm t with|.one (.b b)=>if b=w then .yes else .no|.tup _=>.no|_=>.lost:=rfl;unfold slot at e2;cases hv:tm.get t with
   |none=>rw[hv]at e2;exact .inr (.inl ⟨e2,λa b=>by rw[e,hv];rfl⟩)
   |some v=>
    rw[hv]at e2;cases v with
    |one c=>
     cases c with
     |b x=>
      have e3:gw (some (some t,w)) tm=if x=w then .yes else .no:=e2;cases x<;>cases w<;>first
       |exact .inl ⟨e3,λa b=>by rw[e,hv];rfl⟩
       |exact .inr (.inl ⟨e3,λa b=>by rw[e,hv];rfl⟩)
     |i _ _=>exact .inr (.inr e2)
     |o _=>exact .inr (.inr e2)
    |agg _=>exact .inr (.inr e2)
    |tup _=>exact .inr (.inl ⟨e2,λa b=>by rw[e,hv];rfl⟩)
    |any=>exact .inr (.inr e2)
def WO.o1{E:Env}{ops:List Oper}{Q:ag->Hp->Prop}:∀{l:List Oper}{A:ag}{H:Hp},WO E ops Q l A H->O1 E (iT E.P ops l) A H Q
 |[],A,H,h=>O1.nil h
 |o::l,A,H,h=>by
  obtain⟨hd,hg⟩:=h;rcases qu (gOf ops o.guard) A.tm with⟨h1,h2⟩|⟨h1,h2⟩|h1
  ·rw[h1]at hg;obtain⟨n,v,H1,h3,h4⟩:=WT.n1 hg;exact O1.cons h2 hd ⟨n,v,H1,h3,WO.o1 h4⟩
  ·rw[h1]at hg;exact O1.PI h2 hd (WO.o1 hg)
  rw[h1]at hg;exact hg.elim
def R1.reg{E:Env}{r:Option Nat}{A:ag}{H:Hp}{Q:ax->ag->Hp->Prop}{id:Nat}{ops:Array Oper}(h:WO E ops.toList (λA H=>Q .normal A H) ops.toList A H):R1 E r (.region id ops false) A H Q:=R1.region h.o1
def C1.body{E:Env}{H:Hp}{f:FuncId}{fn:Func}{c:Code}{nt:Nat}{res:List ResultVar}{args:List AV}{Q:AV->Hp->Prop}(hf:E.P.funcs[f]?=some fn)(hb:fn.body=some c)(A0:fn.ntmps=nt)(V4:fn.results.toList=res)(hn:Nat.ble args.length nt=true)(E4:Nat.ble nt 1048576=true)
  (h:∀tm,(∀i v,args[i]?=some v->slot tm i=v)->R1 E none c ⟨tm,nt,[]⟩ H λe A' H'=>∃v H2,aH E res (e,A',H')=.ok [(v,H2)]/\Q v H2):C1 E f args H Q:=by
 subst A0 V4;have h1:args.length<=fn.ntmps:=aY hn;have h2:fn.ntmps<=1048576:=aY E4;refine C1.XD hf hb h1 h2 (h _ λi v hv=>?_);rw[Rc _ _ aa,hv];rfl
def HK{E:Env}{t:Tmp}{A:ag}{H:Hp}{e:ax}{v:AV}{x:Bool×List AC}(he:e=.normal\/e=.ret)(hd:A.dfr=[])(hv:slot A.tm t=v)(hx:jU v=some x):aH E [.tmp t] (e,A,H)=.ok [(fa [x],H)]:=by
 have key:(aB (closeAll H A.dfr) (R.bad "marks") λh2=>aB (cI E.P [.tmp t] A.tm h2) (.bad "results") λl=>.ok [(fa l,h2)])=.ok [(fa [x],H)]:=by
  rw[hd];have hs:(A.tm.get t)=none\/∃u,A.tm.get t=some u/\u=v:=by
   unfold slot at hv;cases hg:A.tm.get t with
   |none=>exact .inl rfl
   |some u=>rw[hg]at hv;exact .inr ⟨u,rfl,hv⟩
  have hr:cI E.P [.tmp t] A.tm H=some [x]:=by
   show aB (aB (A.tm.get t) none jU) none (λx=>aB (some []) none λl=>some (x::l))=some [x];rcases hs with h|⟨u,h,rfl⟩
   ·exfalso;unfold slot at hv;rw[h]at hv;have q5:aP=v:=hv;rw[<-q5]at hx;cases hx
   rw[h];show aB (jU u) none (λx=>some [x])=_;rw[hx];rfl
  show aB (cI E.P [.tmp t] A.tm H) (R.bad "results") (λl=>R.ok [(fa l,H)])=_
  rw[hr];rfl
 rcases he with rfl|rfl
 ·exact key
 exact key
section
variable{H:Hp}{id g off lim n fo:Nat}
theorem uQ(h1:1<=n)(h2:fo+n<=lim):iD H fo n (.one (.o (.ptr id g off lim)))=.val (.one (.o (.ptr id g (off+fo) (lim-fo)))) H:=by show aK (both (Nat.ble 1 n) (Nat.ble (Nat.add fo n) lim)) _ _=_;have e1:Nat.ble 1 n=true:=bG h1;have e2:Nat.ble (Nat.add fo n) lim=true:=bG h2;rw[e1,e2];rfl
theorem Fo{len sz i:Nat}(h:i<len):dq H sz (.one (.o (.sl id g off len sz))) (.one (.i .i64 (.ofNat i)))=.val (.one (.o (.ptr id g (off+i*sz) sz))) H:=by show aK (both (Nat.beq sz sz) (Nat.blt i len)) _ _=_;have e1:Nat.beq sz sz=true:=cN _;have e2:Nat.blt i len=true:=bG h;rw[e1,e2];rfl
theorem lA{len sz i:Nat}(h:i<len):dq H sz (.one (.o (.sl id g off len sz))) (.one (.i .i64 (i:Int)))=.val (.one (.o (.ptr id g (off+i*sz) sz))) H:=Fo h
def rowOf(o:Option aX)(g:Nat):Option (List AC):=
 match o with
 |some (.arr cells _ lo gen)=>if lo<=g/\g<=gen then some cells else none
 |some (.ro cells)=>if g=0 then some cells else none
 |_=>none
theorem de{cells:List AC}{e:TypeId}{lo gen g:Nat}(h1:lo<=g)(h2:g<=gen):rowOf (some (.arr cells e lo gen)) g=some cells:=ad ⟨h1,h2⟩
theorem sA{x:BL}{g:Nat}:rowOf (some (.oth x)) g=none:=rfl
theorem OI(o:Option aX)(g off lim n:Nat):rdO o g off lim n=(rowOf o g).bind λcells=>if n<=lim/\off+n<=cells.length then some ((cells.drop off).take n)else none:=by
 cases o with
 |none=>rfl
 |some o=>
  cases o with
  |arr cells e lo gen=>
   show ifE (both (Nat.ble lo g) (both (Nat.ble g gen) (both (Nat.ble n lim) (Nat.ble (Nat.add off n) (bU cells))))) (some (cut cells off n)) none=(if lo<=g/\g<=gen then some cells else none).bind _;simp only[cG,dv,bP,mG,aT,xh];by_cases h1:lo<=g/\g<=gen
   ·rw[ad h1];by_cases h2:n<=lim/\off+n<=cells.length
    ·rw[ad ⟨h1.1,h1.2,h2.1,h2.2⟩];simp only[Option.bind_some,ad h2]
    rw[ab λh=>h2 ⟨h.2.2.1,h.2.2.2⟩];simp only[Option.bind_some,ab h2]
   rw[ab h1,ab λh=>h1 ⟨h.1,h.2.1⟩];rfl
  |oth x=>rfl
  |ro cells=>
   show ifE (both (Nat.beq g 0) (both (Nat.ble n lim) (Nat.ble (Nat.add off n) (bU cells)))) (some (cut cells off n)) none=(if g=0 then some cells else none).bind _;simp only[cG,dv,bP,mG,aT,xh,xi];by_cases h1:g=0
   ·rw[ad h1];by_cases h2:n<=lim/\off+n<=cells.length
    ·rw[ad ⟨h1,h2.1,h2.2⟩];simp only[Option.bind_some,ad h2]
    rw[ab λh=>h2 ⟨h.2.1,h.2.2⟩];simp only[Option.bind_some,ab h2]
   rw[ab h1,ab λh=>h1 h.1];rfl
def Rd(H:Hp)(id g off n:Nat)(c:List AC):Prop:=∃cells,rowOf (H.get id) g=some cells/\off+n<=cells.length/\(cells.drop off).take n=c
theorem Rd.len{c:List AC}(h:Rd H id g off n c):c.length=n:=by
 obtain⟨cells,h1,h4,rfl⟩:=h;simp
 omega
theorem Rd.part{c:List AC}(h:Rd H id g off n c)(i k:Nat)(hk:i+k<=n):Rd H id g (off+i) k ((c.drop i).take k):=by
 obtain⟨cells,h1,h4,rfl⟩:=h;refine⟨cells,h1,aa,?_⟩;rw[List.drop_take,iy,List.take_take];congr 1
 omega
theorem Rd.dV{c:List AC}{H':Hp}(h:Rd H id g off n c)(hg:H'.get id=H.get id):Rd H' id g off n c:=by obtain⟨cells,h1,r⟩:=h;exact⟨cells,by rw[hg];exact h1,r⟩
theorem Is(o:aX)(i:Nat):(H.new o).get i=if i=H.nx then some o else H.get i:=PT.eQ _ _ _ _
theorem Ir(o:aX)(k i:Nat):(H.mod k o).get i=if i=k then some o else H.get i:=PT.eQ _ _ _ _
end
section
variable{H:Hp}{kd:Nat}{alt:aj}{a b:List UInt8}{x y:Int}
def Vs{f:BF}:cr H kd .eql f (.one (.o (.str a))) (.one (.o (.str b))) alt=.val (.one (.b (lEq a b))) H:=rfl
def Vt{f:BF}:cr H kd .neq f (.one (.o (.str a))) (.one (.o (.str b))) alt=.val (.one (.b (!lEq a b))) H:=rfl
def TC{k:IntKind}:cr H kd .lss (fL .lss) (.one (.i k x)) (.one (.i k y)) alt=.val (.one (.b (decide (x<y)))) H:=by
 have e:cr H kd .lss (fL .lss) (.one (.i k x)) (.one (.i k y)) alt=.val (.one (.b (!iLe y x))) H:=by cases k<;>rfl
 rw[e,AI];congr 3;rw[fZ];simp
def TB{k:IntKind}:cr H kd .leq (fL .leq) (.one (.i k x)) (.one (.i k y)) alt=.val (.one (.b (decide (x<=y)))) H:=by
 have e:cr H kd .leq (fL .leq) (.one (.i k x)) (.one (.i k y)) alt=.val (.one (.b (iLe x y))) H:=by cases k<;>rfl
 rw[e,AI]
def TA{k:IntKind}:cr H kd .gtr (fL .gtr) (.one (.i k x)) (.one (.i k y)) alt=.val (.one (.b (decide (y<x)))) H:=by
 have e:cr H kd .gtr (fL .gtr) (.one (.i k x)) (.one (.i k y)) alt=.val (.one (.b (!iLe x y))) H:=by cases k<;>rfl
 rw[e,AI];congr 3;rw[fZ];simp
def Tz{k:IntKind}:cr H kd .geq (fL .geq) (.one (.i k x)) (.one (.i k y)) alt=.val (.one (.b (decide (y<=x)))) H:=by
 have e:cr H kd .geq (fL .geq) (.one (.i k x)) (.one (.i k y)) alt=.val (.one (.b (iLe y x))) H:=by cases k<;>rfl
 rw[e,AI]
def Ty{k:IntKind}:cr H kd .eql (fL .eql) (.one (.i k x)) (.one (.i k y)) alt=.val (.one (.b (x==y))) H:=by
 have e:cr H kd .eql (fL .eql) (.one (.i k x)) (.one (.i k y)) alt=.val (.one (.b (iEq x y))) H:=by cases k<;>rfl
 rw[e,oE]
def TE{k:IntKind}:cr H kd .neq (fL .neq) (.one (.i k x)) (.one (.i k y)) alt=.val (.one (.b (!(x==y)))) H:=by
 have e:cr H kd .neq (fL .neq) (.one (.i k x)) (.one (.i k y)) alt=.val (.one (.b (!iEq x y))) H:=by cases k<;>rfl
 rw[e,oE]
def Tx{k:IntKind}:cr H kd .add (fL .add) (.one (.i k x)) (.one (.i k y)) alt=.val (.one (.i k (k.wrap (x+y)))) H:=by
 have e:cr H kd .add (fL .add) (.one (.i k x)) (.one (.i k y)) alt=.val (.one (.i k (vU k (Int.add x y)))) H:=by cases k<;>rfl
 rw[e,vV];rfl
def TF{k:IntKind}:cr H kd .sub (fL .sub) (.one (.i k x)) (.one (.i k y)) alt=.val (.one (.i k (k.wrap (x-y)))) H:=by
 have e:cr H kd .sub (fL .sub) (.one (.i k x)) (.one (.i k y)) alt=.val (.one (.i k (vU k (Int.sub x y)))) H:=by cases k<;>rfl
 rw[e,vV];rfl
def TD{k:IntKind}:cr H kd .mul (fL .mul) (.one (.i k x)) (.one (.i k y)) alt=.val (.one (.i k (k.wrap (x*y)))) H:=by
 have e:cr H kd .mul (fL .mul) (.one (.i k x)) (.one (.i k y)) alt=.val (.one (.i k (vU k (Int.mul x y)))) H:=by cases k<;>rfl
 rw[e,vV];rfl
end
def au{E:Env}{t:Tmp}{A:ag}{H:Hp}{e:ax}(c:AC)(he:e=.normal\/e=.ret)(hd:A.dfr=[])(hv:slot A.tm t=.one c):aH E [.tmp t] (e,A,H)=.ok [(.one c,H)]:=HK he hd hv rfl
def eZ:∀us:List Did,gq us []=true
 |[]=>rfl
 |u::us=>by show both (xC u.X1 []) (gq us [])=true;rw[eZ us];rfl
section
variable{E:Env}{A:ag}{H:Hp}{Q:ag->Hp->Prop}{g:Option (Option Tmp×Bool)}{d:Option Tmp}{f:SF}{o:Oper}{l:List OF}{j m:Nat}{ms:List Nat}{did:List Did}
def D1.nil{j:Nat}{ms:List Nat}(h:Q A H):D1 E [] j ms did A H Q:=⟨0,A,H,rfl,h⟩
def D1.cons(hg:∀y n:R (ag×Hp),cy A.tm g y n=y)(hd:bc d A.nt=true){sub:PT aX}(J1:bk H.t H.nx A.tm o (bf m did)=sub)
  (h:N1 E ⟨sub,H.nx,[]⟩ (f.run A.tm ⟨sub,H.nx,[]⟩) λv H'=>gq (bf m did) (eF sub H.nx H'.log)=true /\
   D1 E l (j+1) ms (note (bS o) j sub H H' did (eF sub H.nx H'.log)) (cE A d v) ⟨dU (bS o) H H' (bf m did) (eF sub H.nx H'.log),H'.nx,eF sub H.nx H'.log++H.log⟩ Q):
  D1 E (⟨g,d,f,o⟩::l) j (m::ms) did A H Q:=by
 subst J1;obtain⟨n,v,H1,h1,hf,k,A2,H2,h2,h3⟩:=h;refine⟨max n k,A2,H2,?_,h3⟩;have a1:=wG (E:=E) (eL E (rO n k)) _ h1;have a2:=rZ (E:=E) (eL E (pd n k)) l (j+1) ms _ (cE A d v) _ _ h2;show cy A.tm g (Ai (bS o) j A d H (bk H.t H.nx A.tm o (bf m did)) (bf m did) did (dH E (eval E (max n k)) l (Nat.add j 1) ms) (lk E (eval E (max n k)) ⟨bk H.t H.nx A.tm o (bf m did),H.nx,[]⟩ (f.run A.tm ⟨bk H.t H.nx A.tm o (bf m did),H.nx,[]⟩)))
  (iJ A d aP H (dH E (eval E (max n k)) l (Nat.add j 1) ms did))=_
 rw[hg,a1];show Eng.ifE (gq (bf m did) (eF (bk H.t H.nx A.tm o (bf m did)) H.nx H1.log)) (iJ A d v _ (dH E (eval E (max n k)) l (Nat.add j 1) ms _)) _=_;rw[hf];show iJ A d v _ (dH E (eval E (max n k)) l (Nat.add j 1) ms _)=_;rw[kS hd];exact a2
def D1.skip(hg:∀y n:R (ag×Hp),cy A.tm g y n=n)(hd:bc d A.nt=true)(h:D1 E l (j+1) ms did (cE A d aP) H Q):D1 E (⟨g,d,f,o⟩::l) j (m::ms) did A H Q:=by obtain⟨k,A2,H2,h2,h3⟩:=h;refine⟨k,A2,H2,?_,h3⟩;show cy A.tm g _ (iJ A d aP H (dH E (eval E k) l (Nat.add j 1) ms did))=_;rw[hg,kS hd];exact h2
def D1.pure(hg:∀y n:R (ag×Hp),cy A.tm g y n=y)(hd:bc d A.nt=true)(hk:bS o=0){v:AV}(hv:f.run A.tm ⟨.leaf,H.nx,[]⟩=.val v ⟨.leaf,H.nx,[]⟩)
  (h:D1 E l (j+1) ms did (cE A d v) H Q):D1 E (⟨g,d,f,o⟩::l) j (m::ms) did A H Q:=by
 have hs:bk H.t H.nx A.tm o (bf m did)=.leaf:=by unfold bk;rw[hk];rfl
 refine D1.cons hg hd hs ?_;rw[hv];refine N1.val ⟨eZ _,?_⟩;rw[hk];have e1:note 0 j .leaf H ⟨.leaf,H.nx,[]⟩ did (eF .leaf H.nx [])=did:=by show Eng.ifE (both true (Nat.beq H.nx H.nx)) did _=did;rw[cN];rfl
 have e2:dU 0 H ⟨.leaf,H.nx,[]⟩ (bf m did) (eF .leaf H.nx [])=H.t:=by show cS H.t .leaf (db H.nx (H.nx-H.nx))=H.t;rw[ga];rfl
 rw[e1,e2];exact h
def made(j nx:Nat):Did:=⟨j,.leaf,nx,nx+1,[]⟩
def D1.make(hg:∀y n:R (ag×Hp),cy A.tm g y n=y)(hd:bc d A.nt=true)(hk:bS o=0){v:AV}{x:aX}(hv:f.run A.tm ⟨.leaf,H.nx,[]⟩=.val v (Hp.new ⟨.leaf,H.nx,[]⟩ x))
  (h:D1 E l (j+1) ms (made j H.nx::did) (cE A d v) (H.new x) Q):D1 E (⟨g,d,f,o⟩::l) j (m::ms) did A H Q:=by
 have hs:bk H.t H.nx A.tm o (bf m did)=.leaf:=by unfold bk;rw[hk];rfl
 refine D1.cons hg hd hs ?_;rw[hv];refine N1.val ⟨eZ _,?_⟩;rw[hk];have I1:Nat.beq H.nx (H.nx+1)=false:=by
  cases hb:Nat.beq H.nx (H.nx+1)with
  |false=>rfl
  |true=>have:=aN hb;omega
 have e1:note 0 j .leaf H (Hp.new ⟨.leaf,H.nx,[]⟩ x) did (eF .leaf H.nx [])=made j H.nx::did:=by show Eng.ifE (both true (Nat.beq H.nx (H.nx+1))) did _=_;rw[I1];rfl
 have e2:dU 0 H (Hp.new ⟨.leaf,H.nx,[]⟩ x) (bf m did) (eF .leaf H.nx [])=H.t.set H.nx x:=by show cS H.t ((PT.leaf:PT aX).set H.nx x) (db H.nx (H.nx+1-H.nx))=_;have:H.nx+1-H.nx=1:=aa;rw[this];show PT.put (((PT.leaf:PT aX).set H.nx x).get H.nx) H.t H.nx=_;rw[PT.eQ,ad rfl];rfl
 have e3:eF .leaf H.nx (Hp.new ⟨.leaf,H.nx,[]⟩ x).log=[]:=rfl;rw[e3];have e4:note 0 j .leaf H (Hp.new ⟨.leaf,H.nx,[]⟩ x) did []=made j H.nx::did:=e1;have e5:dU 0 H (Hp.new ⟨.leaf,H.nx,[]⟩ x) (bf m did) []=H.t.set H.nx x:=e2;rw[e4,e5];exact h
def looked(j nx:Nat)(sub:PT aX):Did:=⟨j,sub,nx,nx,[]⟩
def D1.look(hg:∀y n:R (ag×Hp),cy A.tm g y n=y)(hd:bc d A.nt=true)(hk:bS o=1){v:AV}
  (hv:f.run A.tm ⟨bk H.t H.nx A.tm o (bf m did),H.nx,[]⟩=.val v ⟨bk H.t H.nx A.tm o (bf m did),H.nx,[]⟩)
  (h:∀sub,bk H.t H.nx A.tm o (bf m did)=sub->D1 E l (j+1) ms (looked j H.nx sub::did) (cE A d v) H Q):D1 E (⟨g,d,f,o⟩::l) j (m::ms) did A H Q:=by
 refine D1.cons hg hd rfl ?_;rw[hv];refine N1.val ⟨eZ _,?_⟩;rw[hk];have e2:dU 1 H ⟨bk H.t H.nx A.tm o (bf m did),H.nx,[]⟩ (bf m did) (eF (bk H.t H.nx A.tm o (bf m did)) H.nx [])=H.t:=by show cS H.t _ ([]++db H.nx (H.nx-H.nx))=H.t;rw[ga];rfl
 rw[e2];exact h _ rfl
end
def xJ{t:PT aX}{i:Nat}:∀{l:List Nat},i∈l->i∈oN t l
 |[],h=>by cases h
 |x::l,h=>by
  unfold oN;rcases List.mem_cons.1 h with rfl|h
  ·split<;>exact bh ..
  have ih:=xJ (t:=t) h;split
  ·exact aU _ (aU _ ih)
  exact aU _ ih
def qs{src:PT aX}{id:Nat}:∀{l:List Nat}{t:PT aX},(cS t src l).get id=if id∈l then src.get id else t.get id
 |[],t=>by simp[cS]
 |i::l,t=>by
  unfold cS;rw[qs];by_cases hl:id∈l
  ·rw[ad hl,ad (aU _ hl)]
  rw[ab hl,PT.uV];by_cases hi:id=i
  ·subst hi;rw[ad rfl,ad (bh ..)]
  rw[ab hi,ab λhh=>(List.mem_cons.1 hh).elim hi hl]
def fM(P:AV->Hp->Prop)(n:aj):Prop:=
 match n with
 |.val v H=>P v H
 |_=>False
def Uk{P:Program}{d:Option Tmp}{t:TypeId}{x:Operand}{ty:TypeId}{pos:String}{af:Array Edge}{g:Option (Nat×Bool)}{tm:PT AV}{H H':Hp}{id gn off lim:Nat}{v:AV}
  (hx:ev tm x=.one (.o (.ptr id gn off lim))) (h:(aQ P ⟨d,.load t x,ty,pos,af,g⟩).run tm H=.val v H'):
  H'=H/\(∀o,H.get id≠some (.oth o))/\∀h:Hp,h.get id=H.get id->(aQ P ⟨d,.load t x,ty,pos,af,g⟩).run tm h=.val v h:=by
 cases ht:loadT P t with
 |none=>
  have e:∀h,(aQ P ⟨d,.load t x,ty,pos,af,g⟩).run tm h=.bad "load" \/ ∃w,(aQ P ⟨d,.load t x,ty,pos,af,g⟩).run tm h=.bad w:=λh=>.inr (by
   show∃w,(ndF (loadT P t) _ _).run tm h=_
   rw[ht];exact⟨_,rfl⟩)
  rcases e H with e|⟨w,e⟩<;>(rw[e]at h;cases h)
 |some p=>
  have e:∀h:Hp,(aQ P ⟨d,.load t x,ty,pos,af,g⟩).run tm h=nd (gN h id gn off lim p.2) "load - cells" λc=>ifE p.1 (.val (.agg c) h) (List.rec (motive:=λ_=>aj) (.bad "load - no cell") (λx _ _=>.val (.one x) h) c):=λh=>by rw[OT t x ht,hx];rfl
  rw[e H]at h;cases hr:gN H id gn off lim p.2 with
  |none=>rw[hr]at h;cases h
  |some c=>
   rw[hr]at h;have h':ifE p.1 (aj.val (.agg c) H) (List.rec (motive:=λ_=>aj) (.bad "load - no cell") (λx _ _=>.val (.one x) H) c)=.val v H':=h
   have key:H'=H/\∀k:Hp,ifE p.1 (aj.val (.agg c) k) (List.rec (motive:=λ_=>aj) (.bad "load - no cell") (λx _ _=>.val (.one x) k) c)=.val v k:=by
    cases hb:p.1 with
    |true=>
     rw[hb]at h';injection h' with h1 h2
     exact⟨h2.symm,λk=>by rw[<-h1];rfl⟩
    |false=>
     rw[hb]at h';cases c with
     |nil=>cases h'
     |cons y c=>
      injection h' with h1 h2
      exact⟨h2.symm,λk=>by rw[<-h1];rfl⟩
   refine⟨key.1,?_,λk hk=>?_⟩
   ·intro o ho;have h3:rdO (H.get id) gn off lim p.2=some c:=hr;rw[ho]at h3;cases h3
   rw[e k];have:gN k id gn off lim p.2=some c:=by rw[<-hr];unfold gN;rw[hk]
   rw[this];exact key.2 k
def Ro{P:Program}{d:Option Tmp}{t:TypeId}{a x:Operand}{ty:TypeId}{pos:String}{af:Array Edge}{g:Option (Nat×Bool)}{tm:PT AV}{H H':Hp}{id gn off lim:Nat}{v:AV}
  (hx:ev tm a=.one (.o (.ptr id gn off lim))) (h:(aQ P ⟨d,.store t a x,ty,pos,af,g⟩).run tm H=.val v H'):
  ∃o,H'=H.mod id o/\(∃k,H.get id=some k)/\∀h:Hp,h.get id=H.get id->(aQ P ⟨d,.store t a x,ty,pos,af,g⟩).run tm h=.val v (h.mod id o):=by
 cases ht:cD P t with
 |none=>
  have e:∃w,(aQ P ⟨d,.store t a x,ty,pos,af,g⟩).run tm H=.bad w:=by
   show∃w,(ndF (cD P t) _ _).run tm H=_
   rw[ht];exact⟨_,rfl⟩
  obtain⟨w,e⟩:=e;rw[e]at h;cases h
 |some n=>
  have e:∀h:Hp,(aQ P ⟨d,.store t a x,ty,pos,af,g⟩).run tm h=pQ (h.get id) (.bad "store - no row") λcells e lo gen=>
   aK (both (Nat.beq gn gen) (both (Nat.beq (bU (ev tm x).cells) n) (both (Nat.ble n lim) (both (Nat.ble (Nat.add off n) (bU cells)) (both (Nat.ble lo gen) (ev tm x).cd))))) "store - stale or of another size"
    (.val aP (h.mod id (.arr (gO cells off (ev tm x).cells) e gen gen))):=λh=>by rw[Kg t a x ht,hx];rfl
  rw[e H]at h;cases hg:H.get id with
  |none=>rw[hg]at h;cases h
  |some o=>
   cases o with
   |oth o=>rw[hg]at h;cases h
   |ro o=>rw[hg]at h;cases h
   |arr cells el lo gen=>
    rw[hg]at h;have h':aK (both (Nat.beq gn gen) (both (Nat.beq (bU (ev tm x).cells) n) (both (Nat.ble n lim) (both (Nat.ble (Nat.add off n) (bU cells)) (both (Nat.ble lo gen) (ev tm x).cd))))) "store - stale or of another size"
     (.val aP (H.mod id (.arr (gO cells off (ev tm x).cells) el gen gen)))=.val v H':=h
    cases hb:both (Nat.beq gn gen) (both (Nat.beq (bU (ev tm x).cells) n) (both (Nat.ble n lim) (both (Nat.ble (Nat.add off n) (bU cells)) (both (Nat.ble lo gen) (ev tm x).cd))))with
    |false=>rw[hb]at h';cases h'
    |true=>
     rw[hb]at h';injection h' with h1 h2
     refine⟨_,h2.symm,⟨_,rfl⟩,λk hk=>?_⟩;rw[e k,hk];show aK _ _ (aj.val aP (k.mod id (.arr (gO cells off (ev tm x).cells) el gen gen)))=_;rw[hb,<-h1];rfl
def Kh{H:Hp}{tm:PT AV}{o:Oper}{us:List Did}{id:Nat}{x:Operand}(hk:bS o=1)(hx:x∈o.op.operands.toList)(hid:id∈(ev tm x).ids)(D0:id<H.nx)(hu:∀u∈us,cQ u id=false):
  (bk H.t H.nx tm o us).get id=H.get id:=by
 have e:bk H.t H.nx tm o us=cS .leaf H.t ((oN H.t (o.op.operands.toList.flatMap λx=>(ev tm x).ids)).filter λi=>Nat.blt i H.nx&&!us.any (cQ · i)):=by unfold bk;rw[hk];rfl
 rw[e,qs,ad]
 ·rfl
 rw[xg];refine⟨xJ (List.mem_flatMap.2 ⟨x,hx,hid⟩),?_⟩;have h1:Nat.blt id H.nx=true:=bG D0;have h2:us.any (cQ · id)=false:=by rw[yU];intro u hm;rw[hu u hm];simp
 rw[h1,h2];rfl
section
variable{ty:TypeId}{pos:String}{af:Array Edge}{gd:Option (Nat×Bool)}
def xI{u:Did}{i:Nat}:i∈fS u↔cQ u i=true:=by
 unfold fS cQ;have hr:∀(n a:Nat),i∈db a n↔a<=i/\i<a+n:=by
  intro n;induction n with
  |zero=>intro a;show i∈[]↔_;simp
  |succ n ih=>intro a;show i∈a::db (a+1) n↔_;rw[List.mem_cons,ih];omega
 have e:Nat.sub u.c1 u.c0=u.c1-u.c0:=rfl;rw[js,e,hr,eW,vu,aT,xh];have e2:Nat.blt i u.c1=true↔i<u.c1:=⟨λh=>aY h,λh=>bG h⟩;rw[e2];constructor
 ·rintro(h|h)
  ·exact .inl h
  exact .inr ⟨h.1,aa⟩
 rintro(h|h)
 ·exact .inl h
 exact .inr ⟨h.1,aa⟩
end
def N1.mono{E:Env}{H:Hp}{n:aj}{Q Q':AV->Hp->Prop}(h:N1 E H n Q)(hq:∀v H',Q v H'->Q' v H'):N1 E H n Q':=
 let ⟨k,v,H',h1,h2⟩:=h;⟨k,v,H',h1,hq _ _ h2⟩
def ldO(b:Bool)(n off lim:Nat)(H:Hp)(o:Option (List AC)):aj:=
 nd (o.bind λcells=>if n<=lim/\off+n<=cells.length then some ((cells.drop off).take n)else none) "load - cells" λc=>ifE b (.val (.agg c) H) (List.rec (motive:=λ_=>aj) (.bad "load - no cell") (λx _ _=>.val (.one x) H) c)
def stO(n id g off lim:Nat)(x:AV)(H:Hp)(o:Option aX):aj:=
 pQ o (.bad "store - no row") λcells e lo gen=>
  aK (both (Nat.beq g gen) (both (Nat.beq (bU x.cells) n) (both (Nat.ble n lim) (both (Nat.ble (Nat.add off n) (bU cells)) (both (Nat.ble lo gen) x.cd))))) "store - stale or of another size"
   (.val aP (H.mod id (.arr (gO cells off x.cells) e gen gen)))
section
variable{H:Hp}{b:Bool}{n id g off lim lo gen:Nat}{cells:List AC}{e:TypeId}{x:AV}
theorem ji:dB H b n (.one (.o (.ptr id g off lim)))=ldO b n off lim H (rowOf (H.get id) g):=by show nd (rdO (H.get id) g off lim n) _ _=_;rw[OI];rfl
theorem xz:kD H n x (.one (.o (.ptr id g off lim)))=stO n id g off lim x H (H.get id):=rfl
theorem yx(h3:n<=lim)(h4:off+n<=cells.length):ldO true n off lim H (some cells)=.val (.agg ((cells.drop off).take n)) H:=by unfold ldO;simp only[Option.bind_some,ad (zB3 h3 h4)];rfl
theorem yy(h3:1<=lim)(h4:off+1<=cells.length):ldO false 1 off lim H (some cells)=.val (.one ((cells.drop off).headD (.b false))) H:=by
 unfold ldO;simp only[Option.bind_some,ad (zB3 h3 h4)];cases hc:cells.drop off with
 |nil=>have:=congrArg List.length hc;simp at this;omega
 |cons y c=>rfl
theorem OS(h1:g=gen)(h2:x.cells.length=n)(h3:n<=lim)(h4:off+n<=cells.length)(h5:lo<=gen)(h6:x.cd=true):
  stO n id g off lim x H (some (.arr cells e lo gen))=.val aP (H.mod id (.arr (cells.take off++(x.cells++cells.drop (off+n))) e gen gen)):=by
 subst h1 h2;show aK (both (Nat.beq g g) (both (Nat.beq (bU x.cells) x.cells.length) (both (Nat.ble x.cells.length lim) (both (Nat.ble (Nat.add off x.cells.length) (bU cells)) (both (Nat.ble lo g) x.cd))))) _ _=_;have e4:Nat.ble (Nat.add off x.cells.length) (bU cells)=true:=by rw[bP];exact bG h4
 rw[cN,bP,cN,bG h3,e4,bG h5,h6,kT];rfl
def SlC(H:Hp)(v:AC)(sz n:Nat)(cells:List AC):Prop:=cells.length=n*sz/\((v=.o .nilS/\n=0)\/∃id g off,v=.o (.sl id g off n sz)/\id<H.nx/\Rd H id g off (n*sz) cells)
theorem SlC.dV{v:AC}{sz n:Nat}{c:List AC}{H':Hp}(h:SlC H v sz n c)(hn:H.nx<=H'.nx)(hg:∀i,i<H.nx->H'.get i=H.get i):SlC H' v sz n c:=by refine⟨h.1,h.2.imp id ?_⟩;rintro⟨id,g,off,h1,h2,h3⟩;exact⟨id,g,off,h1,ay h2 hn,h3.dV (hg _ h2)⟩
theorem SlC.gr{v:AC}{sz n:Nat}{c:List AC}{H':Hp}(h:SlC H v sz n c)(hg:Gr H H'):SlC H' v sz n c:=h.dV hg.nx λi hi=>hg.get i hi λh=>h
theorem SlC.len{v:AC}{sz n:Nat}{c:List AC}(h:SlC H v sz n c):eo H 1 (.one v)=.val (.one (.i .i64 (n:Int))) H:=by rcases h.2 with⟨rfl,rfl⟩|⟨id,g,off,rfl,_⟩<;>rfl
theorem SlC.pos{v:AC}{sz n:Nat}{c:List AC}(h:SlC H v sz n c)(hn:0<n):∃id g off,v=.o (.sl id g off n sz)/\id<H.nx/\Rd H id g off (n*sz) c:=by
 rcases h.2 with⟨_,rfl⟩|h
 ·omega
 exact h
theorem ql{α:Type}{c:α->List AC}{sz:Nat}(hc:∀x,(c x).length=sz):∀l:List α,(l.flatMap c).length=l.length*sz
 |[]=>by simp
 |x::l=>by rw[List.flatMap_cons,bA,hc,ql hc l,List.length_cons];rw[tY];omega
theorem yr{α:Type}{c:α->List AC}{sz:Nat}(hc:∀x,(c x).length=sz):∀(l:List α)(i:Nat)(x:α),l[i]?=some x->((l.flatMap c).drop (i*sz)).take sz=c x
 |[],i,x,h=>by simp at h
 |y::l,0,x,h=>by simp only[List.getElem?_cons_zero,xj]at h;subst h;rw[Nat.zero_mul,List.drop_zero,List.flatMap_cons,yV (by rw[hc];exact ai _),iX (by rw[hc];exact ai _)]
 |y::l,i+1,x,h=>by rw[List.getElem?_cons_succ]at h;rw[List.flatMap_cons,tY,sG,hc,mR (by rw[hc];omega),gQ];have:i*sz+sz-sz=i*sz:=aa;rw[this];exact yr hc l i x h
theorem Rd.at{α:Type}{c:α->List AC}{sz:Nat}(hc:∀x,(c x).length=sz){l:List α}(h:Rd H id g off (l.length*sz) (l.flatMap c)){i:Nat}{x:α}(hi:l[i]?=some x):Rd H id g (off+i*sz) sz (c x):=by
 have D0:i<l.length:=by
  rcases cO i l.length with h|h
  ·exact h
  rw[iw h]at hi;cases hi
 have:=h.part (i*sz) sz (by have:(i+1)*sz<=l.length*sz:=lQ _ D0;rw[tY]at this;exact this)
 rwa [yr hc l i x hi]at this
end
def gwv(v:AV)(w:Bool):GW:=match v with|.one (.b b)=>if b=w then .yes else .no|.tup _=>.no|_=>.lost
def YG(w:Bool):gwv aP w=.no:=rfl
def YF(b w:Bool):gwv (.one (.b b)) w=if b=w then .yes else .no:=rfl
def Tu(t:Tmp)(w:Bool)(tm:PT AV):gw (some (some t,w)) tm=gwv (slot tm t) w:=rfl
def Iq(ops:List Oper)(j:Nat)(w:Bool):gOf ops (some (j,w))=(ops[j]?).elim (some (none,w)) λo=>some (o.dst,w):=by show(match ops[j]? with|none=>some (none,w)|some o=>some (o.dst,w))=_;cases ops[j]?<;>rfl
def Cu{α β:Type}(g:α->R β):∀(l l':List α)(o o':List β),dg g l=.ok o->dg g l'=.ok o'->dg g (l++l')=.ok (o++o')
 |[],_,_,_,h,_=>by cases h
 |[a],l',o,o',h,h'=>by
  cases l' with
  |nil=>cases h'
  |cons b l'=>have e:g a=.ok o:=h;show zC (g a) (dg g (b::l'))=_;rw[e,h'];rfl
 |a::b::l,l',o,o',h,h'=>by
  have h1:zC (g a) (dg g (b::l))=.ok o:=h;cases ha:g a with
  |bad s=>rw[ha]at h1;cases h1
  |ok oa=>
   cases hb:dg g (b::l)with
   |bad s=>rw[ha,hb]at h1;cases h1
   |ok ob=>
    rw[ha,hb]at h1;have e:oa++ob=o:=by injection h1
    subst e;show zC (g a) (dg g (b::l++l'))=_;rw[ha,Cu g (b::l) l' ob o' hb h'];show R.ok (oa++(ob++o'))=_;rw[bW]
def Cv{α β γ:Type}{f:α->R β}{g:β->R γ}:∀(l:List α)(o:List γ),dg (λa=>(f a).bind g) l=.ok o->(dg f l).bind g=.ok o
 |[],_,h=>by cases h
 |[a],_,h=>h
 |a::b::l,o,h=>by
  have h1:zC ((f a).bind g) (dg (λa=>(f a).bind g) (b::l))=.ok o:=h;cases ha:(f a).bind g with
  |bad s=>rw[ha]at h1;cases h1
  |ok oa=>
   cases hb:dg (λa=>(f a).bind g) (b::l)with
   |bad s=>rw[ha,hb]at h1;cases h1
   |ok ob=>
    rw[ha,hb]at h1;have e:oa++ob=o:=by injection h1
    subst e;have ih:=Cv (b::l) ob hb;show(zC (f a) (dg f (b::l))).bind g=_;cases hf:f a with
    |bad s=>rw[hf]at ha;cases ha
    |ok la=>
     rw[hf]at ha;cases hl:dg f (b::l)with
     |bad s=>rw[hl]at ih;cases ih
     |ok lb=>rw[hl]at ih;exact Cu g la lb oa ob ha ih
def Sy{α β γ:Type}{x:R α}{f:α->R β}{g:β->R γ}{o:List γ}(h:x.bind (λa=>(f a).bind g)=.ok o):(x.bind f).bind g=.ok o:=by
 cases x with
 |bad s=>cases h
 |ok l=>exact Cv l o h
section
variable{E:Env}{r:Option Nat}{A:ag}{H:Hp}{Q:ax->ag->Hp->Prop}{x y z:Code}
def R1.aM(h:R1 E r (.seq x (.seq y z)) A H Q):R1 E r (.seq (.seq x y) z) A H Q:=by
 obtain⟨n,e,A1,H1,h1,h2⟩:=h;refine⟨n,e,A1,H1,?_,h2⟩;show(((codeF E x).run (eval E n) r A H).bind (wZ (codeF E y) (eval E n) r)).bind (wZ (codeF E z) (eval E n) r)=_;have he:(λa=>(wZ (codeF E y) (eval E n) r a).bind (wZ (codeF E z) (eval E n) r))=wZ (codeF E (.seq y z)) (eval E n) r:=by
  funext a
  obtain⟨e,A2,H2⟩:=a;cases e<;>rfl
 refine Sy ?_;rw[he];exact h1
def R1.Vh{c:Operand}{b:Bool}(hc:ev A.tm c=.one (.b b))(h1:b=true->R1 E r (.seq x z) A H Q)(h2:b=false->R1 E r (.seq y z) A H Q):R1 E r (.seq (.cond c x y) z) A H Q:=by
 cases b with
 |true=>
  obtain⟨n,e,A1,H1,h3,h4⟩:=h1 rfl;refine⟨n,e,A1,H1,?_,h4⟩;show(fw (ev A.tm c) (.bad "cond") (λb=>Eng.ifE b ((codeF E x).run (eval E n) r A H) ((codeF E y).run (eval E n) r A H))).bind _=_
  rw[hc];exact h3
 |false=>
  obtain⟨n,e,A1,H1,h3,h4⟩:=h2 rfl;refine⟨n,e,A1,H1,?_,h4⟩;show(fw (ev A.tm c) (.bad "cond") (λb=>Eng.ifE b ((codeF E x).run (eval E n) r A H) ((codeF E y).run (eval E n) r A H))).bind _=_
  rw[hc];exact h3
def R1.cq(h:R1 E r z A H Q):R1 E r (.seq .skip z) A H Q:=R1.seq (R1.skip h)
def R1.Bu(h:Q .ret A H):R1 E r (.seq .ret z) A H Q:=R1.seq (R1.ret h)
def R1.tT{id:Nat}(h:Q (.exit id) A H):R1 E r (.seq (.exit id) z) A H Q:=R1.seq (R1.exit h)
def R1.oU(h:R1 E r (.seq x z) A H Q):R1 E r (.seq (.scope x) z) A H Q:=h
def R1.bJ{id:Nat}(h:∀K:ax->ag->Hp->Prop,(∀A H,R1 E r z A H Q->K .normal A H)->(∀A H,R1 E r z A H Q->K (.exit id) A H)->(∀i A H,i≠id->Q (.exit i) A H->K (.exit i) A H)->(∀A H,Q .ret A H->K .ret A H)->R1 E r x A H K):R1 E r (.seq (.block id x) z) A H Q:=by
 refine R1.seq (R1.block (h _ (λA H h=>h) (λA H h=>?_) (λi A H hi h=>?_) λA H h=>h))
 ·show if id=id then _ else _;rw[ad rfl];exact h
 show if i=id then _ else _;rw[ab hi];exact h
end
def opK(o:Oper):Nat:=
 match o.op with
 |.move _=>0
 |.assign _=>0
 |.pick ..=>0
 |.build ..=>0
 |.nilCheck _=>0
 |.binOp ..=>0
 |.unOp ..=>0
 |.convert ..=>0
 |.fieldAddr ..=>0
 |.field ..=>0
 |.indexAddr ..=>0
 |.index ..=>0
 |.slice ..=>0
 |.extract ..=>0
 |.makeFunc ..=>0
 |.alloc _=>1
 |.box ..=>1
 |.buildSlice ..=>1
 |.makeSlice ..=>1
 |.makeMap ..=>1
 |.load ..=>2
 |.lookup ..=>2
 |.mapUpdate ..=>3
 |.store ..=>3
 |.call ⟨.value _,_,_⟩=>3
 |.call ⟨.builtin .len,⟨[_]⟩,⟨[_]⟩⟩=>2
 |.call ⟨.builtin .min,_,_⟩=>2
 |.call ⟨.builtin .max,_,_⟩=>2
 |.call ⟨.builtin .append,⟨[_,_]⟩,⟨[_,_]⟩⟩=>3
 |_=>4
def LM:Nat->Nat->Bool
 |0,_=>true
 |1,_=>true
 |2,k=>Nat.beq k 0||Nat.beq k 2
 |3,k=>Nat.beq k 0
 |6,k=>Nat.beq k 0||Nat.beq k 2
 |_,_=>false
def cP(k m:Nat):Nat->List Nat->Bool
 |_,[]=>true
 |i,ki::ks=>(Nat.testBit m i||LM k ki)&&cP k m (Nat.add i 1) ks
def plK(st:Bool)(o:Oper):Nat:=bif st&&dE o then 6 else opK o
def Gb(st:Bool):List Nat->List Oper->List Nat->Bool
 |_,[],_=>true
 |before,o::os,m::ms=>(Nat.blt (opK o) 4&&cP (plK st o) m 0 before)&&Gb st (before++[opK o]) os ms
 |_,_::_,[]=>false
def rD(st:Bool)(ops:Array Oper):Bool:=fY ops&&Gb st [] ops.toList (fE [] 0 ops.toList)
def xV{k m:Nat}:∀{i:Nat}{ks:List Nat},cP k m i ks=true->∀j kj,ks[j]?=some kj->Nat.testBit m (i+j)=true\/LM k kj=true
 |_,[],_,j,kj,h=>by simp at h
 |i,x::ks,h,0,kj,hj=>by unfold cP at h;rw[aT,eW]at h;simp only[List.getElem?_cons_zero,xj]at hj;subst hj;exact h.1
 |i,x::ks,h,j+1,kj,hj=>by
  unfold cP at h;rw[aT]at h;rw[List.getElem?_cons_succ]at hj;have:=xV h.2 j kj hj;have e:i+(j+1)=Nat.add i 1+j:=by show i+(j+1)=(i+1)+j;omega
  rw[e];exact this
def PS(n:Hp->aj):Prop:=(∃v,∀h,n h=.val v h)\/∀h v h',n h≠.val v h'
def PS.same(v:AV):PS λh=>.val v h:=.inl ⟨v,λ_=>rfl⟩
def PS.bad(s:String):PS λ_=>.bad s:=.inr λ_ _ _ h=>by cases h
def PS.nd{α:Type}{o:Option α}{s:String}{f:α->Hp->aj}(h:∀a,PS (f a)):PS λk=>nd o s λa=>f a k:=by
 cases o with
 |none=>exact PS.bad s
 |some a=>exact h a
def PS.guard{b:Bool}{s:String}{n:Hp->aj}(h:PS n):PS λk=>aK b s (n k):=by
 cases b with
 |true=>exact h
 |false=>exact PS.bad s
def PS.ifE{b:Bool}{x y:Hp->aj}(hx:PS x)(hy:PS y):PS λk=>Eng.ifE b (x k) (y k):=by
 cases b with
 |true=>exact hx
 |false=>exact hy
def PS.aB{α:Type}{o:Option α}{e:Hp->aj}{f:α->Hp->aj}(he:PS e)(h:∀a,PS (f a)):PS λk=>Eng.aB o (e k) λa=>f a k:=by
 cases o with
 |none=>exact he
 |some a=>exact h a
def PS.sV{x:AV}{e:Hp->aj}{f:Nat->Nat->Nat->Nat->Hp->aj}(he:PS e)(h:∀a b c d,PS (f a b c d)):PS λk=>Eng.sV x (e k) λa b c d=>f a b c d k:=by
 cases x with
 |one c=>cases c with
  |o q=>cases q<;>first|exact he|exact h _ _ _ _
  |b _=>exact he
  |i _ _=>exact he
 |agg _=>exact he
 |tup _=>exact he
 |any=>exact he
def PS.slE{x:AV}{e:Hp->aj}{f:Nat->Nat->Nat->Nat->Nat->Hp->aj}(he:PS e)(h:∀a b c d g,PS (f a b c d g)):PS λk=>Eng.slE x (e k) λa b c d g=>f a b c d g k:=by
 cases x with
 |one c=>cases c with
  |o q=>cases q<;>first|exact he|exact h _ _ _ _ _
  |b _=>exact he
  |i _ _=>exact he
 |agg _=>exact he
 |tup _=>exact he
 |any=>exact he
def PS.fi{x:AV}{e:Hp->aj}{f:IntKind->Int->Hp->aj}(he:PS e)(h:∀a b,PS (f a b)):PS λk=>Eng.fi x (e k) λa b=>f a b k:=by
 cases x with
 |one c=>cases c with|o q=>exact he|b _=>exact he|i _ _=>exact h _ _
 |agg _=>exact he
 |tup _=>exact he
 |any=>exact he
def PS.fw{x:AV}{e:Hp->aj}{f:Bool->Hp->aj}(he:PS e)(h:∀a,PS (f a)):PS λk=>Eng.fw x (e k) λa=>f a k:=by
 cases x with
 |one c=>cases c with|o q=>exact he|b _=>exact h _|i _ _=>exact he
 |agg _=>exact he
 |tup _=>exact he
 |any=>exact he
def PS.jW{x:AV}{e:Hp->aj}{f:List UInt8->Hp->aj}(he:PS e)(h:∀a,PS (f a)):PS λk=>Eng.jW x (e k) λa=>f a k:=by
 cases x with
 |one c=>cases c with
  |o q=>cases q<;>first|exact he|exact h _
  |b _=>exact he
  |i _ _=>exact he
 |agg _=>exact he
 |tup _=>exact he
 |any=>exact he
section
variable{P:Program}
def vG{tm:PT AV}{o:Oper}:PS λh=>aA P tm h o:=by
 unfold aA;refine PS.guard ?_;cases aG P (execOp (λx=>bQ (ev tm x)) o)with
 |none=>exact PS.bad _
 |some n=>cases n<;>first|exact PS.bad _|exact PS.guard (PS.same _)
def xB(i:Nat):∀l:List (Bool×List AC),PS λH=>Nat.rec (motive:=λ_=>List (Bool×List AC)->aj)
   (λl=>List.rec (motive:=λ_=>aj) (.bad "extract") (λx _ _=>Eng.ifE x.1 (.val (.agg x.2) H) (List.rec (motive:=λ_=>aj) (.bad "extract") (λc m _=>List.rec (motive:=λ_=>aj) (.val (.one c) H) (λ_ _ _=>.bad "extract") m) x.2)) l)
   (λ_ ih l=>List.rec (motive:=λ_=>aj) (.bad "extract") (λ_ l' _=>ih l') l) i l:=by
 induction i with
 |zero=>
  intro l;cases l with
  |nil=>exact PS.bad _
  |cons x l=>
   refine PS.ifE (PS.same _) ?_;obtain⟨b,c⟩:=x;cases c with
   |nil=>exact PS.bad _
   |cons y c=>cases c<;>first|exact PS.same _|exact PS.bad _
 |succ i ih=>
  intro l;cases l with
  |nil=>exact PS.bad _
  |cons x l=>exact ih l
def Lv{x:AV}{i:Nat}:PS λH=>dP H x i:=by
 cases x with
 |tup l=>exact xB i l
 |one _=>exact PS.bad _
 |agg _=>exact PS.bad _
 |any=>exact xB i []
def Zj{kd:Nat}{op:BinOp}{f:BF}{x y:AV}{alt:Hp->aj}(ha:PS alt):PS λH=>cr H kd op f x y (alt H):=by
 cases x with
 |one c=>cases c with
  |o q=>
   show PS λH=>nC H kd op (.one (.o q)) y (alt H);unfold nC;refine PS.jW ?_ λ_=>PS.jW ha λ_=>PS.aB ha λ_=>PS.same _;unfold rY;cases Oq kd (.one (.o q)) y with
   |none=>exact ha
   |some b=>cases op<;>first|exact PS.same _|exact PS.bad _
  |b _=>exact ha
  |i k a=>show PS λH=>Eng.fi y (alt H) λk' b=>nB H f k a k' b (alt H);exact PS.fi ha λk' b=>PS.ifE (by cases f<;>first|exact PS.same _|exact ha) ha
 |agg _=>exact ha
 |tup _=>exact ha
 |any=>exact ha
def Tp{fo n:Nat}{a:Bool}{x:AV}:PS λH=>yo H fo n a x:=by
 cases x with
 |agg l=>exact PS.ifE (PS.guard (PS.same _)) (PS.nd λ_=>PS.same _)
 |one _=>exact PS.bad _
 |tup _=>exact PS.bad _
 |any=>exact PS.bad _
def Jp{x:AV}:PS λH=>jm H x:=by
 cases x with
 |one c=>cases c with
  |o q=>cases q<;>first|exact PS.bad _|exact PS.same _
  |b _=>exact PS.bad _
  |i _ _=>exact PS.bad _
 |agg _=>exact PS.bad _
 |tup _=>exact PS.bad _
 |any=>exact PS.bad _
def SF.LJ{α:Type}{o:Option α}{s:String}{f:α->SF}{tm:PT AV}(h:∀a,PS ((f a).run tm)):PS ((ndF o s f).run tm):=by
 cases o with
 |none=>exact PS.bad _
 |some a=>exact h a
def SF.ifPS{b:Bool}{s:String}{f:SF}{tm:PT AV}(h:PS (f.run tm)):PS ((Eng.ifE b f (gW s)).run tm):=by
 cases b with
 |false=>exact PS.bad _
 |true=>exact h
def OV{tm:PT AV}{o:Oper}(hk:opK o=0):PS ((aQ P o).run tm):=by
 have hp:∀o,PS λH=>aA P tm H o:=λ_=>vG;obtain⟨dst,op,type,pos,after,guard⟩:=o;cases op with
 |move x=>cases x<;>exact PS.same _
 |assign x=>cases x<;>exact PS.same _
 |pick c x y=>exact PS.fw (PS.bad _) λ_=>PS.same _
 |build t parts=>exact SF.LJ λ_=>SF.LJ λ_=>SF.LJ λ_=>PS.nd λ_=>PS.same _
 |nilCheck x=>exact Jp
 |binOp op t x y c=>exact Zj (hp _)
 |unOp op t x=>show PS λH=>Lj H op _ (aA P tm H _);unfold Lj;cases op<;>first|exact PS.fw vG λ_=>PS.same _|exact vG
 |convert s d x=>exact hp _
 |fieldAddr s x f=>exact SF.LJ λ_=>PS.sV (PS.bad _) λ_ _ _ _=>PS.guard (PS.same _)
 |field t x f=>exact SF.LJ λ_=>SF.LJ λ_=>Tp
 |indexAddr t x i=>
  cases he:bV P t with
  |none=>simp only[aQ,he];exact SF.LJ λ_=>PS.sV (PS.bad _) λ_ _ _ _=>PS.fi (PS.bad _) λ_ _=>PS.nd λ_=>PS.guard (PS.same _)
  |some p=>simp only[aQ,he];exact PS.slE (PS.bad _) λ_ _ _ _ _=>PS.fi (PS.bad _) λ_ _=>PS.nd λ_=>PS.guard (PS.same _)
 |index t x i=>exact PS.ifE (PS.jW (hp _) λ_=>PS.fi (hp _) λ_ _=>PS.nd λ_=>PS.nd λ_=>PS.same _) (hp _)
 |slice t x lo hi mx=>
  cases mx with
  |some _=>exact PS.bad _
  |none=>
   cases he:bV P t with
   |none=>
    have:aQ P ⟨dst,.slice t x lo hi none,type,pos,after,guard⟩=.mk λtm h=>aA P tm h ⟨dst,.slice t x lo hi none,type,pos,after,guard⟩:=by simp[aQ,he]
    rw[this];exact hp _
   |some p=>
    have:aQ P ⟨dst,.slice t x lo hi none,type,pos,after,guard⟩=.mk λtm h=>ep h p.2 ((opF x).ev tm) (lo.map (ev tm)) (hi.map (ev tm)) (aA P tm h ⟨dst,.slice t x lo hi none,type,pos,after,guard⟩):=by simp[aQ,he]
    rw[this];exact PS.slE (hp _) λ_ _ _ _ _=>PS.nd λ_=>PS.nd λ_=>PS.guard (PS.same _)
 |extract x i=>exact Lv
 |makeFunc fn first caps=>
  cases fn with
  |func f=>exact SF.ifPS (PS.nd λ_=>PS.same _)
  |_=>exact PS.bad _
 |call c=>
  exfalso;revert hk
  show opK ⟨dst,.call c,type,pos,after,guard⟩=0->False;unfold opK;intro hk;split at hk<;>first|exact absurd hk aE|(rename_i h;cases h)
 |_=>cases hk
def NS(n:Hp->aj):Prop:=∀h v h',n h=.val v h'->∃x,h'=h.new x/\∀k:Hp,k.nx=h.nx->n k=.val v (k.new x)
def NS.mk(f:Nat->AV)(x:aX):NS λh=>.val (f h.nx) (h.new x):=λh v h' e=>by
 injection e with e1 e2
 subst e1 e2;exact⟨x,rfl,λk hk=>by simp only[hk]⟩
def NS.bad(s:String):NS λ_=>.bad s:=λ_ _ _ h=>by cases h
def NS.nd{α:Type}{o:Option α}{s:String}{f:α->Hp->aj}(h:∀a,NS (f a)):NS λk=>nd o s λa=>f a k:=by
 cases o with
 |none=>exact NS.bad s
 |some a=>exact h a
def NS.guard{b:Bool}{s:String}{n:Hp->aj}(h:NS n):NS λk=>aK b s (n k):=by
 cases b with
 |true=>exact h
 |false=>exact NS.bad s
def NS.fi{x:AV}{e:Hp->aj}{f:IntKind->Int->Hp->aj}(he:NS e)(h:∀a b,NS (f a b)):NS λk=>Eng.fi x (e k) λa b=>f a b k:=by
 cases x with
 |one c=>cases c with|o q=>exact he|b _=>exact he|i _ _=>exact h _ _
 |agg _=>exact he
 |tup _=>exact he
 |any=>exact he
def DZ{c:List AC}{e:TypeId}:NS λH=>mN H c e:=NS.mk (λn=>.one (.o (.ptr n 0 0 (bU c)))) _
def SF.Xr{α:Type}{o:Option α}{s:String}{f:α->SF}{tm:PT AV}(h:∀a,NS ((f a).run tm)):NS ((ndF o s f).run tm):=by
 cases o with
 |none=>exact NS.bad _
 |some a=>exact h a
def SF.ifNS{b:Bool}{s:String}{f:SF}{tm:PT AV}(h:NS (f.run tm)):NS ((Eng.ifE b f (gW s)).run tm):=by
 cases b with
 |false=>exact NS.bad _
 |true=>exact h
def OU{tm:PT AV}{o:Oper}(hk:opK o=1):NS ((aQ P o).run tm):=by
 obtain⟨dst,op,type,pos,after,guard⟩:=o;cases op with
 |alloc e=>exact SF.Xr λ_=>DZ
 |box e x=>exact NS.guard DZ
 |buildSlice t len parts=>exact SF.Xr λes=>SF.Xr λ_=>SF.ifNS (SF.Xr λ_=>NS.nd λ_=>NS.mk (λn=>.one (.o (.sl n 0 0 len es.2))) _)
 |makeSlice t l c=>exact NS.nd λes=>NS.nd λ_=>NS.nd λ_=>NS.fi (NS.bad _) λ_ _=>NS.fi (NS.bad _) λ_ _=>NS.nd λk=>NS.nd λ_=>NS.guard (NS.mk (λn=>.one (.o (.sl n 0 0 k es.2))) _)
 |makeMap t r=>
  cases r with
  |some _=>exact NS.bad _
  |none=>exact NS.mk (λn=>.one (.o (.mp n))) _
 |call c=>
  exfalso;revert hk
  show opK ⟨dst,.call c,type,pos,after,guard⟩=1->False;unfold opK;intro hk;split at hk<;>first|exact absurd hk aE|(rename_i h;cases h)
 |_=>cases hk
end
def eS(o:Oper):List Operand:=
 match o.op with
 |.load _ x=>[x]
 |.lookup _ x _ _=>[x]
 |.mapUpdate _ x _ _=>[x]
 |.store _ a _=>[a]
 |.call ⟨.builtin .len,⟨[x]⟩,_⟩=>[x]
 |.call ⟨.builtin .append,⟨[s,x]⟩,_⟩=>[s,x]
 |_=>[]
def AU{o:Oper}{x:Operand}(h:x∈eS o):x∈o.op.operands.toList:=by
 obtain⟨dst,op,type,pos,after,guard⟩:=o;unfold eS at h;split at h
 ·rename_i hh;cases hh;simp at h;subst h;simp[Op.operands]
 ·rename_i hh;cases hh;simp at h;subst h;simp[Op.operands]
 ·rename_i hh;cases hh;simp at h;subst h;simp[Op.operands]
 ·rename_i hh;cases hh;simp at h;subst h;simp[Op.operands]
 ·rename_i hh;cases hh;simp at h;subst h;simp[Op.operands,Call.operands]
 ·rename_i hh;cases hh;simp at h;rcases h with rfl|rfl<;>simp[Op.operands,Call.operands]
 cases h
def Agr(o:Oper)(tm:PT AV)(H h:Hp):Prop:=h.nx=H.nx/\∀x∈eS o,∀id∈(ev tm x).ids,h.get id=H.get id
def Dw(P:Program)(o:Oper):Prop:=∀tm H v H',(aQ P o).run tm H=.val v H'->H'=H/\∀h,Agr o tm H h->(aQ P o).run tm h=.val v h
def PS.look{P:Program}{o:Oper}(h:∀tm,PS ((aQ P o).run tm)):Dw P o:=λtm H v H' e=>by
 rcases h tm with⟨v',h'⟩|h'
 ·have e':=(h' H).symm.trans e;injection e' with e1 e2
  subst e1;exact⟨e2.symm,λk _=>h' k⟩
 exact absurd e (h' H v H')
def Ud{P:Program}{d:Option Tmp}{x:Operand}{t:TypeId}{ty:TypeId}{pos:String}{af:Array Edge}{g:Option (Nat×Bool)}:Dw P ⟨d,.call ⟨.builtin .len,⟨[x]⟩,⟨[t]⟩⟩,ty,pos,af,g⟩:=by
 intro tm H v H' h;have e:∀h,(aQ P ⟨d,.call ⟨.builtin .len,⟨[x]⟩,⟨[t]⟩⟩,ty,pos,af,g⟩).run tm h=(ndF (kI P t) "len - type" λk=>.mk λtm h=>eo h k (ev tm x)).run tm h:=λh=>rfl
 rw[e]at h;cases hk:kI P t with
 |none=>rw[hk]at h;cases h
 |some k=>
  rw[hk]at h;have h':eo H k (ev tm x)=.val v H':=h;have key:∀h,eo h k (ev tm x)=.val v h->(aQ P ⟨d,.call ⟨.builtin .len,⟨[x]⟩,⟨[t]⟩⟩,ty,pos,af,g⟩).run tm h=.val v h:=λh hh=>by rw[e,hk];exact hh
  match k with
  |0=>
   have p:PS λh=>eo h 0 (ev tm x):=PS.jW (PS.bad _) λ_=>PS.same _;rcases p with⟨v',p⟩|p
   ·have h2:=(p H).symm.trans h';injection h2 with e1 e2;subst e1;exact⟨e2.symm,λk _=>key k (p k)⟩
   exact absurd h' (p H v H')
  |1=>
   have p:PS λh=>eo h 1 (ev tm x):=PS.slE (PS.guard (PS.same _)) λ_ _ _ _ _=>PS.same _;rcases p with⟨v',p⟩|p
   ·have h2:=(p H).symm.trans h';injection h2 with e1 e2;subst e1;exact⟨e2.symm,λk _=>key k (p k)⟩
   exact absurd h' (p H v H')
  |k+2=>
   have h2:fz H (ev tm x)=.val v H':=h';unfold fz at h2;split at h2
   ·injection h2 with e1 e2
    rename_i hx
    refine⟨e2.symm,λk _=>key k ?_⟩;show fz k (ev tm x)=_;rw[hx,<-e1];rfl
   ·rename_i id hx
    split at h2
    ·rename_i es c hg
     injection h2 with e1 e2
     refine⟨e2.symm,λk hk=>key k ?_⟩;show fz k (ev tm x)=_;have hid:k.get id=H.get id:=hk.2 x (by simp[eS]) id (by rw[hx];exact List.mem_singleton.2 rfl);rw[hx,<-e1];unfold fz;simp only[hid,hg]
    cases h2
   cases h2
def xK{P:Program}{d:Option Tmp}{b:Builtin}(hb:b=.min\/b=.max){xs:Array Operand}{ts:Array TypeId}{ty:TypeId}{pos:String}{af:Array Edge}{g:Option (Nat×Bool)}:Dw P ⟨d,.call ⟨.builtin b,xs,ts⟩,ty,pos,af,g⟩:=by
 refine PS.look λtm=>?_;have e:(aQ P ⟨d,.call ⟨.builtin b,xs,ts⟩,ty,pos,af,g⟩).run tm=λh=>aA P tm h ⟨d,.call ⟨.builtin b,xs,ts⟩,ty,pos,af,g⟩:=by rcases hb with rfl|rfl<;>rfl
 rw[e];exact vG
def Qs{P:Program}{d:Option Tmp}{t:TypeId}{x:Operand}{ty:TypeId}{pos:String}{af:Array Edge}{g:Option (Nat×Bool)}:Dw P ⟨d,.load t x,ty,pos,af,g⟩:=by
 intro tm H v H' h;have hx:∃id gn off lim,ev tm x=.one (.o (.ptr id gn off lim)):=by
  cases ht:loadT P t with
  |none=>
   have e:(aQ P ⟨d,.load t x,ty,pos,af,g⟩).run tm H=.bad "load - type" := by show(ndF (loadT P t) _ _).run tm H=_;rw[ht];rfl
   rw[e]at h;cases h
  |some p=>
   rw[OT t x ht]at h;unfold dB at h;cases hv:ev tm x with
   |one c=>cases c with
    |o q=>cases q<;>first|exact⟨_,_,_,_,rfl⟩|(rw[hv]at h;cases h)
    |b _=>rw[hv]at h;cases h
    |i _ _=>rw[hv]at h;cases h
   |agg _=>rw[hv]at h;cases h
   |tup _=>rw[hv]at h;cases h
   |any=>rw[hv]at h;cases h
 obtain⟨id,gn,off,lim,hx⟩:=hx;obtain⟨e1,_,h3⟩:=Uk hx h;exact⟨e1,λk hk=>h3 k (hk.2 x (by simp[eS]) id (by rw[hx];exact List.mem_singleton.2 rfl))⟩
def jI{H H':Hp}{ok b:Bool}{x v:AV}(h:bF H ok x b=.val v H'):H'=H/\∀h,bF h ok x b=.val v h:=by
 unfold bF at h |-;cases ok with
 |false=>injection h with e1 e2;exact⟨e2.symm,λk=>by rw[<-e1]⟩
 |true=>
  cases hn:x.cd with
  |false=>simp only[hn]at h;cases h
  |true=>
   simp only[hn]at h |-;injection h with e1 e2
   exact⟨e2.symm,λk=>by rw[<-e1];rfl⟩
def LD{P:Program}{H H':Hp}{kt:TypeId}{z k v:AV}{ok:Bool}{l:List (Int×AV)}(h:qN P H kt z k ok l=.val v H'):H'=H/\∀h',qN P h' kt z k ok l=.val v h':=by
 unfold qN at h |-;cases hk:Nat.beq (bO P kt) 1 with
 |false=>rw[hk]at h;cases h
 |true=>
  rw[hk]at h;cases k with
  |one c=>
   cases c with
   |i kd n=>
    cases hs:sameKind kd .i64 with
    |false=>
     have h0:aK (sameKind kd .i64) "lookup - key" (aB (eI n l) (bF H ok z false) λv=>bF H ok v true)=.val v H':=h
     rw[hs]at h0;cases h0
    |true=>
     have h0:aK (sameKind kd .i64) "lookup - key" (aB (eI n l) (bF H ok z false) λv=>bF H ok v true)=.val v H':=h
     rw[hs]at h0;have h1:aB (eI n l) (bF H ok z false) (λv=>bF H ok v true)=.val v H':=h0;have goal:(∀h',aB (eI n l) (bF h' ok z false) (λv=>bF h' ok v true)=.val v h')->∀h',aK true "lookup - key" (fi (.one (.i kd n)) (.bad "lookup - key") λkd n=>aK (sameKind kd .i64) "lookup - key" (aB (eI n l) (bF h' ok z false) λv=>bF h' ok v true))=.val v h':=λg h'=>by
      show aK (sameKind kd .i64) "lookup - key" (aB (eI n l) (bF h' ok z false) λv=>bF h' ok v true)=_
      rw[hs];exact g h'
     cases hl:eI n l with
     |none=>rw[hl]at h1 goal;obtain⟨e1,e2⟩:=jI h1;exact⟨e1,goal e2⟩
     |some u=>rw[hl]at h1 goal;obtain⟨e1,e2⟩:=jI h1;exact⟨e1,goal e2⟩
   |b _=>cases h
   |o _=>cases h
  |agg _=>cases h
  |tup _=>cases h
  |any=>cases h
def Jc{P:Program}{d:Option Tmp}{t:TypeId}{m k:Operand}{ok:Bool}{ty:TypeId}{pos:String}{af:Array Edge}{g:Option (Nat×Bool)}:Dw P ⟨d,.lookup t m k ok,ty,pos,af,g⟩:=by
 intro tm H v H' h;have e:∀h,(aQ P ⟨d,.lookup t m k ok,ty,pos,af,g⟩).run tm h=(ndF (jl P t) "lookup - type" λp=>ndF (ba P p.2) "lookup - zero" λz=>.mk λtm h=>bI P h p.1 (ofValue z) (ev tm m) (ev tm k) ok).run tm h:=λh=>rfl
 rw[e]at h;cases hm:jl P t with
 |none=>rw[hm]at h;cases h
 |some p=>
  cases hz:ba P p.2 with
  |none=>
   have h0:(ndF (jl P t) "lookup - type" λp=>ndF (ba P p.2) "lookup - zero" λz=>.mk λtm h=>bI P h p.1 (ofValue z) (ev tm m) (ev tm k) ok).run tm H=.bad "lookup - zero" := by
    rw[hm];show(ndF (ba P p.2) "lookup - zero" λz=>.mk λtm h=>bI P h p.1 (ofValue z) (ev tm m) (ev tm k) ok).run tm H=_
    rw[hz];rfl
   rw[h0]at h;cases h
  |some z=>
   have e2:∀h,(ndF (jl P t) "lookup - type" λp=>ndF (ba P p.2) "lookup - zero" λz=>.mk λtm h=>bI P h p.1 (ofValue z) (ev tm m) (ev tm k) ok).run tm h=bI P h p.1 (ofValue z) (ev tm m) (ev tm k) ok:=λh=>by
    rw[hm];show(ndF (ba P p.2) "lookup - zero" λz=>.mk λtm h=>bI P h p.1 (ofValue z) (ev tm m) (ev tm k) ok).run tm h=_
    rw[hz];rfl
   rw[e2]at h;have key:∀h,bI P h p.1 (ofValue z) (ev tm m) (ev tm k) ok=.val v h->(aQ P ⟨d,.lookup t m k ok,ty,pos,af,g⟩).run tm h=.val v h:=λh hh=>by rw[e,e2];exact hh
   unfold bI at h;split at h
   ·rename_i hx
    cases hk:iH P true p.1 (ev tm k)with
    |none=>rw[hk]at h;cases h
    |some u=>rw[hk]at h;obtain⟨e1,e3⟩:=jI h;refine⟨e1,λh' _=>key h' ?_⟩;unfold bI;rw[hx];show nd (iH P true p.1 (ev tm k)) _ _=_;rw[hk];exact e3 h'
   ·rename_i id hx
    split at h
    ·rename_i es c hg
     cases hk:iH P es.isEmpty p.1 (ev tm k)with
     |none=>rw[hk]at h;cases h
     |some u=>
      rw[hk]at h;have sub:∀h',Agr ⟨d,.lookup t m k ok,ty,pos,af,g⟩ tm H h'->bI P h' p.1 (ofValue z) (ev tm m) (ev tm k) ok=(match ln P p.1 (ev tm k) es with|some (some e)=>bF h' ok e.val true|some none=>bF h' ok (ofValue z) false|none=>.bad "lookup - keys"):=λh' ha=>by have hid:h'.get id=some (.oth (.map es c)):=(ha.2 m (by simp[eS]) id (by rw[hx];exact List.mem_singleton.2 rfl)).trans hg;unfold bI;rw[hx];simp only[hid,hk];rfl
      have h2:(match ln P p.1 (ev tm k) es with|some (some e)=>bF H ok e.val true|some none=>bF H ok (ofValue z) false|none=>.bad "lookup - keys")=.val v H':=h
      cases hf:ln P p.1 (ev tm k) es with
      |none=>rw[hf]at h2;cases h2
      |some r=>
       cases r with
       |none=>rw[hf]at h2;obtain⟨e1,e3⟩:=jI h2;exact⟨e1,λh' ha=>key h' (by rw[sub h' ha,hf];exact e3 h')⟩
       |some en=>rw[hf]at h2;obtain⟨e1,e3⟩:=jI h2;exact⟨e1,λh' ha=>key h' (by rw[sub h' ha,hf];exact e3 h')⟩
    ·rename_i l hg
     have sub:∀h',Agr ⟨d,.lookup t m k ok,ty,pos,af,g⟩ tm H h'->bI P h' p.1 (ofValue z) (ev tm m) (ev tm k) ok=qN P h' p.1 (ofValue z) (ev tm k) ok l:=λh' ha=>by have hid:h'.get id=some (.oth (.fmap l)):=(ha.2 m (by simp[eS]) id (by rw[hx];exact List.mem_singleton.2 rfl)).trans hg;unfold bI;rw[hx];simp only[hid]
     obtain⟨e1,e3⟩:=LD h;exact⟨e1,λh' ha=>key h' (by rw[sub h' ha];exact e3 h')⟩
    cases h
   cases h
def El{P:Program}{o:Oper}(hk:opK o=2):Dw P o:=by
 obtain⟨dst,op,type,pos,after,guard⟩:=o;cases op with
 |load t x=>exact Qs
 |lookup t m k ok=>exact Jc
 |call c=>
  obtain⟨ce,as,ts⟩:=c;have J4:=hk;unfold opK at J4;split at J4<;>first|exact absurd J4 aE|skip
  ·rename_i h;cases h
  ·rename_i h;cases h
  ·rename_i h;cases h;exact Ud
  ·rename_i h;cases h;exact xK (.inl rfl)
  rename_i h;cases h;exact xK (.inr rfl)
 |_=>cases hk
def WB(P:Program)(o:Oper):Prop:=∀tm H v H',(aQ P o).run tm H=.val v H' ->
 (H'=H/\∀h,Agr o tm H h->(aQ P o).run tm h=.val v h) \/
 (∃x,H'=H.new x/\∀h,Agr o tm H h->(aQ P o).run tm h=.val v (h.new x)) \/
 (∃id x k,H'=H.mod id x/\H.get id=some k/\(∃y∈eS o,id∈(ev tm y).ids)/\∀h,Agr o tm H h->(aQ P o).run tm h=.val v (h.mod id x))
def Rn{P:Program}{d:Option Tmp}{t:TypeId}{a x:Operand}{ty:TypeId}{pos:String}{af:Array Edge}{g:Option (Nat×Bool)}:WB P ⟨d,.store t a x,ty,pos,af,g⟩:=by
 intro tm H v H' h;have hx:∃id gn off lim,ev tm a=.one (.o (.ptr id gn off lim)):=by
  cases ht:cD P t with
  |none=>
   have e:(aQ P ⟨d,.store t a x,ty,pos,af,g⟩).run tm H=.bad "store - type" := by show(ndF (cD P t) _ _).run tm H=_;rw[ht];rfl
   rw[e]at h;cases h
  |some p=>
   rw[Kg t a x ht]at h;unfold kD at h;cases hv:ev tm a with
   |one c=>cases c with
    |o q=>cases q<;>first|exact⟨_,_,_,_,rfl⟩|(rw[hv]at h;cases h)
    |b _=>rw[hv]at h;cases h
    |i _ _=>rw[hv]at h;cases h
   |agg _=>rw[hv]at h;cases h
   |tup _=>rw[hv]at h;cases h
   |any=>rw[hv]at h;cases h
 obtain⟨id,gn,off,lim,hx⟩:=hx;obtain⟨o,e1,⟨k,e2⟩,h3⟩:=Ro hx h;have X1:id∈(ev tm a).ids:=by rw[hx];exact List.mem_singleton.2 rfl
 exact .inr (.inr ⟨id,o,k,e1,e2,⟨a,by simp[eS],X1⟩,λh hk=>h3 h (hk.2 a (by simp[eS]) id X1)⟩)
def Ms{P:Program}{d:Option Tmp}{t:TypeId}{m k x:Operand}{ty:TypeId}{pos:String}{af:Array Edge}{g:Option (Nat×Bool)}:WB P ⟨d,.mapUpdate t m k x,ty,pos,af,g⟩:=by
 intro tm H v H' h;have e:∀h,(aQ P ⟨d,.mapUpdate t m k x,ty,pos,af,g⟩).run tm h=(ndF (jl P t) "mapUpdate - type" λp=>.mk λtm h=>bD P h p.1 (ev tm m) (ev tm k) (ev tm x)).run tm h:=λh=>rfl
 rw[e]at h;cases hm:jl P t with
 |none=>rw[hm]at h;cases h
 |some p=>
  rw[hm]at h;have h1:bD P H p.1 (ev tm m) (ev tm k) (ev tm x)=.val v H':=h;clear h;have key:∀{h:Hp}{r:aj},bD P h p.1 (ev tm m) (ev tm k) (ev tm x)=r->(aQ P ⟨d,.mapUpdate t m k x,ty,pos,af,g⟩).run tm h=r:=λ{h r}hh=>by rw[e,hm];exact hh
  unfold bD at h1;split at h1
  ·rename_i id hx
   split at h1
   ·rename_i es c hg
    have X1:id∈(ev tm m).ids:=by rw[hx];exact List.mem_singleton.2 rfl
    have sub:∀h',Agr ⟨d,.mapUpdate t m k x,ty,pos,af,g⟩ tm H h'->bD P h' p.1 (ev tm m) (ev tm k) (ev tm x)=(nd (iH P false p.1 (ev tm k)) "mapUpdate - key" λ_=>aK (both (ev tm k).cd (ev tm x).cd) "mapUpdate - tuple" <| nd (rm P p.1 (ev tm k) (ev tm x) es) "mapUpdate - keys" λr=>ifE r.1 (.val aP (h'.mod id (.oth (.map r.2 c)))) (.val aP (h'.mod id (.oth (.map (es++[⟨ev tm k,ev tm x,c⟩]) (Nat.add c 1)))))):=λh' ha=>by have hid:h'.get id=some (.oth (.map es c)):=(ha.2 m (by simp[eS]) id X1).trans hg;unfold bD;rw[hx];simp only[hid]
    cases hk:iH P false p.1 (ev tm k)with
    |none=>rw[hk]at h1;cases h1
    |some u=>
     rw[hk]at h1;cases hn:both (ev tm k).cd (ev tm x).cd with
     |false=>
      have h2:aK (both (ev tm k).cd (ev tm x).cd) "mapUpdate - tuple" _=_:=h1
      rw[hn]at h2;cases h2
     |true=>
      have h2:aK (both (ev tm k).cd (ev tm x).cd) "mapUpdate - tuple" _=_:=h1
      rw[hn]at h2;cases hp:rm P p.1 (ev tm k) (ev tm x) es with
      |none=>
       have h3:nd (rm P p.1 (ev tm k) (ev tm x) es) "mapUpdate - keys" _=_:=h2
       rw[hp]at h3;cases h3
      |some r=>
       have h3:nd (rm P p.1 (ev tm k) (ev tm x) es) "mapUpdate - keys" _=_:=h2
       rw[hp]at h3;have sub2:∀h',Agr ⟨d,.mapUpdate t m k x,ty,pos,af,g⟩ tm H h'->bD P h' p.1 (ev tm m) (ev tm k) (ev tm x)=ifE r.1 (.val aP (h'.mod id (.oth (.map r.2 c)))) (.val aP (h'.mod id (.oth (.map (es++[⟨ev tm k,ev tm x,c⟩]) (Nat.add c 1))))):=λh' ha=>by rw[sub h' ha,hk];show aK (both (ev tm k).cd (ev tm x).cd) _ _=_;rw[hn];show nd (rm P p.1 (ev tm k) (ev tm x) es) _ _=_;rw[hp];rfl
       obtain⟨rb,rl⟩:=r;cases rb with
       |true=>
        have h4:aj.val aP (H.mod id (.oth (.map rl c)))=.val v H':=h3;injection h4 with e1 e2
        exact .inr (.inr ⟨id,_,_,e2.symm,hg,⟨m,by simp[eS],X1⟩,λh' ha=>key (by rw[sub2 h' ha,<-e1];rfl)⟩)
       |false=>
        have h4:aj.val aP (H.mod id (.oth (.map (es++[⟨ev tm k,ev tm x,c⟩]) (Nat.add c 1))))=.val v H':=h3;injection h4 with e1 e2
        exact .inr (.inr ⟨id,_,_,e2.symm,hg,⟨m,by simp[eS],X1⟩,λh' ha=>key (by rw[sub2 h' ha,<-e1];rfl)⟩)
   cases h1
  cases h1
def ZF{id g off len sz:Nat}:(AV.one (.o (.sl id g off len sz))).ids=[id]:=rfl
def Rm{H h:Hp}{sz:Nat}{x:AV}(hk:∀id∈x.ids,h.get id=H.get id):mB h sz x=mB H sz x:=by
 unfold mB;split
 ·rename_i id g off len sz'
  have:gN h id g off (Nat.mul len sz) (Nat.mul len sz)=gN H id g off (Nat.mul len sz) (Nat.mul len sz):=by unfold gN;rw[hk id (by rw[ZF];exact List.mem_singleton.2 rfl)]
  rw[this]
 ·rfl
 rfl
def KQ{P:Program}{d:Option Tmp}{s x:Operand}{t t2:TypeId}{ty:TypeId}{pos:String}{af:Array Edge}{g:Option (Nat×Bool)}:WB P ⟨d,.call ⟨.builtin .append,⟨[s,x]⟩,⟨[t,t2]⟩⟩,ty,pos,af,g⟩:=by
 intro tm H v H' h;have e:∀h,(aQ P ⟨d,.call ⟨.builtin .append,⟨[s,x]⟩,⟨[t,t2]⟩⟩,ty,pos,af,g⟩).run tm h=(Eng.ifE (Nat.beq t t2) (.mk λtm h=>bN P h t (ev tm s) (ev tm x)) (gW "append - types"):SF).run tm h:=λh=>rfl
 rw[e]at h;cases hb:Nat.beq t t2 with
 |false=>rw[hb]at h;cases h
 |true=>
  rw[hb]at h;have h1:bN P H t (ev tm s) (ev tm x)=.val v H':=h;have key:∀{h:Hp}{r:aj},bN P h t (ev tm s) (ev tm x)=r->(aQ P ⟨d,.call ⟨.builtin .append,⟨[s,x]⟩,⟨[t,t2]⟩⟩,ty,pos,af,g⟩).run tm h=r:=λ{h r}hh=>by rw[e,hb];exact hh
  unfold bN at h1;cases h2:bV P t with
  |none=>rw[h2]at h1;cases h1
  |some es=>
  rw[h2]at h1;cases h3:dA P es.1 with
  |none=>have:(aj.bad "append - bytes")=.val v H':=by rw[<-h1];simp only[nd,h3]
         cases this
  |some by_=>
  cases h4:ba P es.1 with
  |none=>have:(aj.bad "append - zero")=.val v H':=by rw[<-h1];simp only[nd,h3,h4]
         cases this
  |some z=>
  cases h5:both (!Nat.beq es.2 0) (Nat.beq (bU (ofValue z).cells) es.2)with
  |false=>have:(aj.bad "append - size 0")=.val v H':=by rw[<-h1];simp only[nd,h3,h4,h5,aK]
          cases this
  |true=>
  cases h6:mB H es.2 (ev tm x)with
  |none=>have:(aj.bad "append - what is appended")=.val v H':=by rw[<-h1];simp only[nd,h3,h4,h5,aK,h6]
         cases this
  |some nc=>
  have h7:eP H es.1 es.2 by_ nc.1 nc.2 (ev tm s)=.val v H':=by rw[<-h1];simp only[nd,h3,h4,h5,aK,h6]
  have key2:∀{h:Hp}{r:aj},Agr ⟨d,.call ⟨.builtin .append,⟨[s,x]⟩,⟨[t,t2]⟩⟩,ty,pos,af,g⟩ tm H h->eP h es.1 es.2 by_ nc.1 nc.2 (ev tm s)=r->(aQ P ⟨d,.call ⟨.builtin .append,⟨[s,x]⟩,⟨[t,t2]⟩⟩,ty,pos,af,g⟩).run tm h=r:=λ{h r}ha hh=>by refine key ?_;have e6:=(Rm (sz:=es.2) λid hid=>ha.2 x (by simp[eS]) id hid).trans h6;unfold bN;rw[h2];simp only[nd,h3,h4,h5,aK,e6];exact hh
  unfold eP at h7;split at h7
  ·rename_i hs
   cases h8:Nat.beq nc.1 0 with
   |true=>
    rw[h8]at h7;injection h7 with e1 e2
    refine .inl ⟨e2.symm,λh ha=>key2 ha ?_⟩;unfold eP;rw[hs]at e1 |-;simp only[h8];rw[<-e1];rfl
   |false=>
    rw[h8]at h7;cases h9:both (Nat.ble nc.1 140737488355328) (Nat.ble (Nat.mul nc.1 by_) 140737488355328)with
    |false=>have:(aj.bad "append - too much")=.val v H':=by rw[<-h7];simp only[Eng.ifE,aK,h9]
            cases this
    |true=>
     have h10:(aj.val (.one (.o (.sl H.nx 0 0 nc.1 es.2))) (H.new (.arr nc.2 es.1 0 0)))=.val v H':=by rw[<-h7];simp only[Eng.ifE,aK,h9]
     injection h10 with e1 e2
     refine .inr (.inl ⟨_,e2.symm,λh ha=>key2 ha ?_⟩);unfold eP;rw[hs];simp only[h8,Eng.ifE,aK,h9,ha.1];rw[<-e1]
  ·rename_i id g2 off len sz' hs
   have hid:id∈(ev tm s).ids:=by rw[hs];exact List.mem_singleton.2 rfl
   have hop:s∈eS ⟨d,.call ⟨.builtin .append,⟨[s,x]⟩,⟨[t,t2]⟩⟩,ty,pos,af,g⟩:=by simp[eS]
   cases hg:H.get id with
   |none=>rw[hg]at h7;cases h7
   |some ob=>
    cases ob with
    |oth q=>rw[hg]at h7;cases h7
    |ro q=>rw[hg]at h7;cases h7
    |arr cells e' lo gen=>
     rw[hg]at h7;have key3:∀{h:Hp}{r:aj},Agr ⟨d,.call ⟨.builtin .append,⟨[s,x]⟩,⟨[t,t2]⟩⟩,ty,pos,af,g⟩ tm H h->(aK (both (Nat.beq sz' es.2) (both (Nat.beq e' es.1) (both (Nat.ble lo g2) (both (Nat.ble g2 gen) (both (Nat.ble (Nat.add off (Nat.mul len es.2)) (bU cells))
       (both (Nat.ble (Nat.add len nc.1) 140737488355328) (Nat.ble (Nat.mul (Nat.add len nc.1) by_) 140737488355328))))))) "append - stale or too much"
      (Eng.ifE (Nat.beq nc.1 0) (.val (.one (.o (.sl id g2 off len sz'))) h)
       (Eng.ifE (both (Nat.beq g2 gen) (both (Nat.beq off 0) (Nat.beq (Nat.mul len es.2) (bU cells))))
        (.val (.one (.o (.sl id (Nat.add gen 1) 0 (Nat.add len nc.1) es.2))) (h.mod id (.arr (pE cells nc.2) es.1 lo (Nat.add gen 1))))
        (.val (.one (.o (.sl id (Nat.add gen 1) 0 (Nat.add len nc.1) es.2))) (h.mod id (.arr (pE (cut cells off (Nat.mul len es.2)) nc.2) es.1 (Nat.add gen 1) (Nat.add gen 1)))))))=r->(aQ P ⟨d,.call ⟨.builtin .append,⟨[s,x]⟩,⟨[t,t2]⟩⟩,ty,pos,af,g⟩).run tm h=r:=λ{h r}ha hh=>by
      refine key2 ha ?_;unfold eP;rw[hs];simp only[pQ,ha.2 s hop id hid,hg];exact hh
     have h8:(aK (both (Nat.beq sz' es.2) (both (Nat.beq e' es.1) (both (Nat.ble lo g2) (both (Nat.ble g2 gen) (both (Nat.ble (Nat.add off (Nat.mul len es.2)) (bU cells))
       (both (Nat.ble (Nat.add len nc.1) 140737488355328) (Nat.ble (Nat.mul (Nat.add len nc.1) by_) 140737488355328))))))) "append - stale or too much"
      (Eng.ifE (Nat.beq nc.1 0) (.val (.one (.o (.sl id g2 off len sz'))) H)
       (Eng.ifE (both (Nat.beq g2 gen) (both (Nat.beq off 0) (Nat.beq (Nat.mul len es.2) (bU cells))))
        (.val (.one (.o (.sl id (Nat.add gen 1) 0 (Nat.add len nc.1) es.2))) (H.mod id (.arr (pE cells nc.2) es.1 lo (Nat.add gen 1))))
        (.val (.one (.o (.sl id (Nat.add gen 1) 0 (Nat.add len nc.1) es.2))) (H.mod id (.arr (pE (cut cells off (Nat.mul len es.2)) nc.2) es.1 (Nat.add gen 1) (Nat.add gen 1)))))))=.val v H':=by
      rw[<-h7,hs];rfl
     cases hc:both (Nat.beq sz' es.2) (both (Nat.beq e' es.1) (both (Nat.ble lo g2) (both (Nat.ble g2 gen) (both (Nat.ble (Nat.add off (Nat.mul len es.2)) (bU cells)) (both (Nat.ble (Nat.add len nc.1) 140737488355328) (Nat.ble (Nat.mul (Nat.add len nc.1) by_) 140737488355328))))))with
     |false=>rw[hc]at h8;cases h8
     |true=>
      rw[hc]at h8;cases hn:Nat.beq nc.1 0 with
      |true=>
       rw[hn]at h8;injection h8 with e1 e2
       refine .inl ⟨e2.symm,λh ha=>key3 ha ?_⟩;rw[hc,hn,<-e1];rfl
      |false=>
       rw[hn]at h8;cases ht:both (Nat.beq g2 gen) (both (Nat.beq off 0) (Nat.beq (Nat.mul len es.2) (bU cells)))with
       |true=>
        rw[ht]at h8;injection h8 with e1 e2
        refine .inr (.inr ⟨_,_,_,e2.symm,hg,⟨s,hop,hid⟩,λh ha=>key3 ha ?_⟩);rw[hc,hn,ht,<-e1];rfl
       |false=>
        rw[ht]at h8;injection h8 with e1 e2
        refine .inr (.inr ⟨_,_,_,e2.symm,hg,⟨s,hop,hid⟩,λh ha=>key3 ha ?_⟩);rw[hc,hn,ht,<-e1];rfl
  cases h7
def ltV(v:AV)(n:Nat):Prop:=∀id∈v.ids,id<n
def LTo(o:Oper)(A:ag)(H:Hp):Prop:=
 match o.op with
 |.load _ x=>ltV (ev A.tm x) H.nx
 |.lookup _ x _ _=>ltV (ev A.tm x) H.nx
 |.mapUpdate _ x _ _=>ltV (ev A.tm x) H.nx
 |.store _ a _=>ltV (ev A.tm a) H.nx
 |.call ⟨.builtin .len,⟨[x]⟩,_⟩=>ltV (ev A.tm x) H.nx
 |.call ⟨.builtin .append,⟨[s,x]⟩,_⟩=>ltV (ev A.tm s) H.nx/\ltV (ev A.tm x) H.nx
 |_=>True
def LTo.mem{o:Oper}{A:ag}{H:Hp}(h:LTo o A H){x:Operand}(hx:x∈eS o){id:Nat}(hid:id∈(ev A.tm x).ids):id<H.nx:=by
 obtain⟨dst,op,type,pos,after,guard⟩:=o;unfold eS at hx;split at hx
 ·rename_i hh;cases hh;simp at hx;subst hx;exact h id hid
 ·rename_i hh;cases hh;simp at hx;subst hx;exact h id hid
 ·rename_i hh;cases hh;simp at hx;subst hx;exact h id hid
 ·rename_i hh;cases hh;simp at hx;subst hx;exact h id hid
 ·rename_i hh;cases hh;simp at hx;subst hx;exact h id hid
 ·rename_i hh;cases hh;simp at hx
  rcases hx with rfl|rfl
  ·exact h.1 id hid
  exact h.2 id hid
 cases hx
def CS(st:Bool)(E:Env)(H:Hp)(n:aj)(next:AV->Hp->Prop):Prop:=
 ∀lg,N1 E ⟨H.t,H.nx,lg⟩ n λv h'=>(st=true->Gr ⟨H.t,H.nx,lg⟩ h')/\∀lg',(∀X,Fr X ⟨H.t,H.nx,lg⟩ h'->Fr X H ⟨h'.t,h'.nx,lg'⟩)->next v ⟨h'.t,h'.nx,lg'⟩
def CS.cn{st:Bool}{E:Env}{H:Hp}{n:aj}{next:AV->Hp->Prop}(h:CS st E H n next):CN E H n next:=λlg=>(h lg).mono λ_ _ h=>h.2
def WE(st:Bool)(E:Env)(A:ag)(d:Option Tmp)(next:ag->Hp->Prop)(H:Hp)(n:aj):Prop:=
 match n with
 |.enter f args=>CS st E H (.enter f args) λv H'=>next (cE A d v) H'
 |.round id args=>CS st E H (.round id args) λv H'=>next (cE A d v) H'
 |_=>False
def IsEn:aj->Prop
 |.enter _ _=>True
 |.round _ _=>True
 |_=>False
def SK(st:Bool)(E:Env)(o:Oper)(A:ag)(H:Hp)(next:ag->Hp->Prop):Prop:=
 match o.op with
 |.call ⟨.value _,_,_⟩=>WE st E A o.dst next H ((aQ E.P o).run A.tm H)
 |_=>LTo o A H/\fM (λv H'=>next (cE A o.dst v) H') ((aQ E.P o).run A.tm H)
def SU(st:Bool)(E:Env)(o:Oper)(A:ag)(H:Hp)(next:ag->Hp->Prop)(g:GW):Prop:=
 match g with
 |.yes=>SK st E o A H next
 |.no=>next (cE A o.dst aP) H
 |.lost=>False
def SO(st:Bool)(E:Env)(ops:List Oper)(Q:ag->Hp->Prop):List Oper->ag->Hp->Prop
 |[],A,H=>Q A H
 |o::l,A,H=>bc o.dst A.nt=true/\SU st E o A H (SO st E ops Q l) (gw (gOf ops o.guard) A.tm)
def eN(before:List Nat)(did:List Did):Prop:=∀u∈did,∃k,before[u.idx]?=some k/\k≠0/\(k=2->u.wr=[]/\u.c0=u.c1)
def eN.more{before:List Nat}{did:List Did}(h:eN before did)(k:Nat):eN (before++[k]) did:=λu hu=>by
 obtain⟨k',h1,h2⟩:=h u hu;refine⟨k',?_,h2⟩;have D0:u.idx<before.length:=by
  rcases cO u.idx before.length with h|h
  ·exact h
  rw[iw h]at h1;cases h1
 rw[gR D0];exact h1
def eN.cons{before:List Nat}{did:List Did}(h:eN before did){k:Nat}{u:Did}(hi:u.idx=before.length)(hk:k≠0)(h2:k=2->u.wr=[]/\u.c0=u.c1):eN (before++[k]) (u::did):=λv hv=>by
 rcases List.mem_cons.1 hv with rfl|hv
 ·exact⟨k,by rw[hi];simp,hk,h2⟩
 exact h.more k v hv
def eN.pair{before:List Nat}{did:List Did}(h:eN before did){k m:Nat}(hs:cP k m 0 before=true){u:Did}(hu:u∈bf m did):∃ku,ku≠0/\(ku=2->u.wr=[]/\u.c0=u.c1)/\LM k ku=true:=by
 obtain⟨h1,h2⟩:=da.1 hu;obtain⟨ku,h3,h4,h5⟩:=h u h1;refine⟨ku,h4,h5,?_⟩;rcases xV hs u.idx ku h3 with h|h
 ·rw[Nat.zero_add,h2]at h;cases h
 exact h
def eN.none{before:List Nat}{did:List Did}(h:eN before did){m:Nat}(hs:cP 3 m 0 before=true):bf m did=[]:=by rw[vX];intro u hu;obtain⟨ku,h1,_,h2⟩:=h.pair hs hu;exact h1 (aN h2)
def eN.look{before:List Nat}{did:List Did}(h:eN before did){m:Nat}(hs:cP 2 m 0 before=true):∀u∈bf m did,∀i,cQ u i=false:=by
 intro u hu i;obtain⟨ku,h1,h3,h2⟩:=h.pair hs hu;have h2':(Nat.beq ku 0||Nat.beq ku 2)=true:=h2;rw[eW]at h2';rcases h2' with h|h
 ·exact absurd (aN h) h1
 obtain⟨a,b⟩:=h3 (aN h);unfold cQ;rw[a,b];show(false||_)=false;rw[Bool.false_or,Bool.and_eq_false_iff];rcases cO i u.c1 with h|h
 ·left;cases hb:Nat.ble u.c1 i with
  |false=>rfl
  |true=>have:=aY hb;omega
 right;cases hb:Nat.blt i u.c1 with
 |false=>rfl
 |true=>have:i<u.c1:=aY hb;omega
def eN.YI{before:List Nat}{did:List Did}(h:eN before did){m:Nat}(hs:cP 6 m 0 before=true):∀u∈bf m did,∀i,cQ u i=false:=by
 refine h.look (m:=m) ?_;have key:∀(l:List Nat)(i:Nat),cP 6 m i l=true->cP 2 m i l=true:=by
  intro l;induction l with
  |nil=>intro i _;rfl
  |cons x l ih=>intro i h;unfold cP at h |-;rw[aT]at h |-;exact⟨h.1,ih _ h.2⟩
 exact key _ _ hs
def qO{o:Oper}{k:Nat}(hk:opK o=k)(h4:k<4):bS o=if k<2 then 0 else if dE o=true then 2 else 1:=by
 obtain⟨dst,op,type,pos,after,guard⟩:=o;cases op with
 |call c=>obtain⟨ce,as,ts⟩:=c;unfold opK at hk;split at hk<;>first|(subst hk;rename_i h;cases h;rfl)|(subst hk;exact absurd h4 aE)|(rename_i h;cases h)
 |_=>first|(subst hk;rfl)|(subst hk;exact absurd (show(4:Nat)<4 from h4) aE)
def Dl{o:Oper}(hk:opK o=3)(hc:dE o=true):∃d f as ts ty pos af g,o=⟨d,.call ⟨.value f,as,ts⟩,ty,pos,af,g⟩:=by
 obtain⟨dst,op,type,pos,after,guard⟩:=o;cases op with
 |call c=>
  obtain⟨ce,as,ts⟩:=c;cases ce with
  |value f=>exact⟨_,_,_,_,_,_,_,_,rfl⟩
  |invoke _ _=>cases hc
  |builtin _=>cases hc
 |_=>cases hc
def SH{P:Program}{o:Oper}(hk:opK o=3)(hc:dE o=false):WB P o:=by
 obtain⟨dst,op,type,pos,after,guard⟩:=o;cases op with
 |store t a x=>exact Rn
 |mapUpdate t m k x=>exact Ms
 |call c=>
  obtain⟨ce,as,ts⟩:=c;unfold opK at hk;split at hk<;>first|exact absurd hk aE|skip
  ·rename_i h;cases h
  ·rename_i h;cases h
  ·rename_i h;cases h;cases hc
  rename_i h;cases h;exact KQ
 |_=>cases hk
def Hp.ext'{H H':Hp}(h1:H.t=H'.t)(h2:H.nx=H'.nx)(h3:H.log=H'.log):H=H':=by cases H;cases H';cases h1;cases h2;cases h3;rfl
section
variable{st:Bool}{E:Env}{A:ag}{H:Hp}{Q:ag->Hp->Prop}{g:Option (Option Tmp×Bool)}{l:List OF}{j m:Nat}{ms:List Nat}{did:List Did}{before:List Nat}
def WE.inv{d:Option Tmp}{next:ag->Hp->Prop}{n:aj}(h:WE st E A d next H n):IsEn n/\CS st E H n λv H'=>next (cE A d v) H':=by
 cases n with
 |enter f as=>exact⟨trivial,h⟩
 |val v H'=>exact h.elim
 |sX l=>exact h.elim
 |round id args=>exact⟨trivial,h⟩
 |bad s=>exact h.elim
def fM.inv{P:AV->Hp->Prop}{n:aj}(h:fM P n):∃v H',n=.val v H'/\P v H':=by
 cases n with
 |val v H'=>exact⟨v,H',rfl,h⟩
 |enter f as=>exact h.elim
 |sX l=>exact h.elim
 |round id args=>exact h.elim
 |bad s=>exact h.elim
def SK.val{o:Oper}{next:ag->Hp->Prop}(hc:dE o=false)(h:SK st E o A H next):LTo o A H/\∃v H',(aQ E.P o).run A.tm H=.val v H'/\next (cE A o.dst v) H':=by
 obtain⟨dst,op,type,pos,after,guard⟩:=o;have key:LTo ⟨dst,op,type,pos,after,guard⟩ A H/\fM (λv H'=>next (cE A dst v) H') ((aQ E.P ⟨dst,op,type,pos,after,guard⟩).run A.tm H):=by
  cases op with
  |call c=>
   obtain⟨ce,as,ts⟩:=c;cases ce with
   |value f=>cases hc
   |invoke _ _=>exact h
   |builtin _=>exact h
  |_=>exact h
 exact⟨key.1,key.2.inv⟩
def EI{o:Oper}(hk:bS o=1)(hl:LTo o A H){us:List Did}(hu:∀u∈us,∀i,cQ u i=false):Agr o A.tm H ⟨bk H.t H.nx A.tm o us,H.nx,[]⟩:=
 ⟨rfl,λx hx id hid=>Kh hk (AU hx) hid (hl.mem hx hid) λu hm=>hu u hm id⟩
def SK.d1{o:Oper}(hj:before.length=j)(J2:eN before did)(h4:opK o<4)(hs:cP (plK st o) m 0 before=true)(hg:∀y n:R (ag×Hp),cy A.tm g y n=y)(hd:bc o.dst A.nt=true)
  (h:SK st E o A H λA H=>∀did',eN (before++[opK o]) did'->D1 E l (j+1) ms did' A H Q):D1 E (⟨g,o.dst,aQ E.P o,o⟩::l) j (m::ms) did A H Q:=by
 have hpl:dE o=false->plK st o=opK o:=λh=>by unfold plK;rw[h,Bool.and_false];rfl
 cases F1:dE o with
 |true=>
  have hk:opK o=3:=by
   obtain⟨dst,op,type,pos,after,guard⟩:=o;cases op with
   |call c=>
    obtain⟨ce,as,ts⟩:=c;cases ce with
    |value f=>rfl
    |invoke _ _=>cases F1
    |builtin _=>cases F1
   |_=>cases F1
  obtain⟨d,f,as,ts,ty,pos,af,gd,rfl⟩:=Dl hk F1;have hlk2:bS ⟨d,.call ⟨.value f,as,ts⟩,ty,pos,af,gd⟩=2:=rfl;have hwe:WE st E A d (λA H=>∀did',eN (before++[3]) did'->D1 E l (j+1) ms did' A H Q) H ((aQ E.P ⟨d,.call ⟨.value f,as,ts⟩,ty,pos,af,gd⟩).run A.tm H):=h;obtain⟨_,hcn⟩:=WE.inv hwe;have hids:(bf m did).flatMap fS=[]:=by
   rw[vX];intro i hi;obtain⟨u,hu,hiu⟩:=List.mem_flatMap.1 hi;cases st with
   |false=>have hs':cP 3 m 0 before=true:=hs;rw[J2.none hs']at hu;cases hu
   |true=>have hs':cP 6 m 0 before=true:=hs;rw[xI,J2.YI hs' u hu i]at hiu;cases hiu
  have hfree:∀{h':Hp},(st=true->Gr ⟨H.t,H.nx,[]⟩ h')->gq (bf m did) (eF H.t H.nx h'.log)=true:=λ{h'}hg=>by
   cases st with
   |false=>have hs':cP 3 m 0 before=true:=hs;rw[J2.none hs'];rfl
   |true=>
    have hwr:eF H.t H.nx h'.log=[]:=by
     obtain⟨lg,e,hl⟩:=(hg rfl).log;rw[vX];intro i hi;obtain⟨a1,a2,_⟩:=lJ.1 hi;rw[e,List.append_nil]at a1;rcases hl i a1 with h|h
     ·have h':H.nx<=i:=h;omega
     exact h
    rw[hwr];exact eZ _
  have J1:bk H.t H.nx A.tm ⟨d,.call ⟨.value f,as,ts⟩,ty,pos,af,gd⟩ (bf m did)=H.t:=by unfold bk;rw[hlk2];show pV H.t ((bf m did).flatMap fS)=H.t;rw[hids];rfl
  refine D1.cons hg hd J1 ?_;have hn':(aQ E.P ⟨d,.call ⟨.value f,as,ts⟩,ty,pos,af,gd⟩).run A.tm ⟨H.t,H.nx,[]⟩=(aQ E.P ⟨d,.call ⟨.value f,as,ts⟩,ty,pos,af,gd⟩).run A.tm H:=rfl;rw[hn'];refine(hcn []).mono λv h'⟨B2,L1⟩=>⟨hfree B2,?_⟩;rw[hlk2];have e1:dU 2 H h' (bf m did) (eF H.t H.nx h'.log)=h'.t:=by show cS h'.t H.t ((bf m did).flatMap fS)=h'.t;rw[hids];rfl
  rw[e1];refine L1 (eF H.t H.nx h'.log++H.log) (λX hf=>⟨hf.nx,hf.get,eF H.t H.nx h'.log,rfl,λi hi=>?_⟩) _ ?_
  ·obtain⟨a1,a2,_⟩:=lJ.1 hi;obtain⟨lg,e,hl⟩:=hf.log;rw[e,List.append_nil]at a1;exact hl i a1
  have e2:note 2 j H.t H h' did (eF H.t H.nx h'.log)=⟨j,H.t,H.nx,h'.nx,eF H.t H.nx h'.log⟩::did:=rfl;rw[e2];exact J2.cons hj.symm aE (λh=>by cases h)
 |false=>
  rw[hpl F1]at hs;generalize hk:opK o=k at h4 hs h;have B4:=qO hk h4;obtain⟨hl,v,H',hn,L1⟩:=SK.val F1 h;rw[F1]at B4;match k,hk,h4,hs,B4 with
  |0,hk,_,hs,B4=>
   rcases OV hk (P:=E.P) (tm:=A.tm)with⟨v',hp⟩|hp
   ·have e:=(hp H).symm.trans hn;injection e with e1 e2
    subst e1 e2;exact D1.pure hg hd B4 (hp _) (L1 _ (J2.more 0))
   exact absurd hn (hp _ _ _)
  |1,hk,_,hs,B4=>obtain⟨x,e1,e2⟩:=OU hk (P:=E.P) (tm:=A.tm) _ _ _ hn;subst e1;refine D1.make hg hd B4 (e2 ⟨.leaf,H.nx,[]⟩ rfl) (L1 _ (J2.cons hj.symm aE (λh=>by cases h)))
  |2,hk,_,hs,B4=>obtain⟨e1,e2⟩:=El hk (P:=E.P) _ _ _ _ hn;subst e1;have hu:=J2.look hs;exact D1.look hg hd B4 (e2 _ (EI B4 hl hu)) λsub _=>L1 _ (J2.cons hj.symm aE (λ_=>⟨rfl,rfl⟩))
  |3,hk,_,hs,B4=>
   have hu:=J2.none hs;have S3:=EI (us:=bf m did) B4 hl (by rw[hu];intro u h;cases h);generalize J1:bk H.t H.nx A.tm o (bf m did)=sub at S3;refine D1.cons hg hd J1 ?_;have hdo:∀u:Did,u.idx=j->eN (before++[3]) (u::did):=λu z6=>J2.cons (z6.trans hj.symm) aE (λh=>by cases h);rcases SH hk F1 (P:=E.P) _ _ _ _ hn with⟨e1,e2⟩|⟨x,e1,e2⟩|⟨id,x,k,e1,ek,⟨y,hy,hyid⟩,e2⟩
   ·rw[e2 _ S3,hu];subst e1;refine N1.val ⟨rfl,?_⟩;rw[B4];have e3:dU 1 H' ⟨sub,H'.nx,[]⟩ [] []=H'.t:=by show cS H'.t sub (db H'.nx (H'.nx-H'.nx))=H'.t;rw[ga];rfl
    show D1 E l (j+1) ms _ (cE A o.dst v) ⟨dU 1 H' ⟨sub,H'.nx,[]⟩ [] [],H'.nx,[]++H'.log⟩ Q;rw[e3];exact L1 _ (hdo _ rfl)
   ·rw[e2 _ S3,hu];subst e1;refine N1.val ⟨rfl,?_⟩;rw[B4];have e3:dU 1 H (Hp.new ⟨sub,H.nx,[]⟩ x) [] []=H.t.set H.nx x:=by show cS H.t (sub.set H.nx x) (db H.nx (H.nx+1-H.nx))=_;have:H.nx+1-H.nx=1:=aa;rw[this];show PT.put ((sub.set H.nx x).get H.nx) H.t H.nx=_;rw[PT.eQ,ad rfl];rfl
    show D1 E l (j+1) ms _ (cE A o.dst v) ⟨dU 1 H (Hp.new ⟨sub,H.nx,[]⟩ x) [] [],H.nx+1,[]++H.log⟩ Q;rw[e3];exact L1 _ (hdo _ rfl)
   rw[e2 _ S3,hu];subst e1;have hid:id<H.nx:=hl.mem hy hyid;have hwr:eF sub H.nx [id]=[id]:=by show Eng.ifE (Nat.blt id H.nx) (aB (sub.get id) (eF sub H.nx []) λ_=>id::eF sub H.nx []) (eF sub H.nx [])=_;have f1:Nat.blt id H.nx=true:=bG hid;have f2:sub.get id=some k:=(S3.2 y hy id hyid).trans ek;rw[f1,f2];rfl
   refine N1.val ⟨rfl,?_⟩;rw[B4];have e3:dU 1 H (Hp.mod ⟨sub,H.nx,[]⟩ id x) [] [id]=H.t.set id x:=by show cS H.t (sub.set id x) ([id]++db H.nx (H.nx-H.nx))=_;rw[ga];show PT.put ((sub.set id x).get id) H.t id=_;rw[PT.eQ,ad rfl];rfl
   show D1 E l (j+1) ms _ (cE A o.dst v) ⟨dU 1 H (Hp.mod ⟨sub,H.nx,[]⟩ id x) [] (eF sub H.nx [id]),H.nx,eF sub H.nx [id]++H.log⟩ Q;rw[hwr,e3];exact L1 _ (hdo _ rfl)
  |k+4,_,h4,_,_=>omega
end
def SK.mono{st:Bool}{E:Env}{o:Oper}{A:ag}{H:Hp}{next next':ag->Hp->Prop}(h:SK st E o A H next)(hn:∀A H,next A H->next' A H):SK st E o A H next':=by
 cases hc:dE o with
 |false=>
  obtain⟨hl,v,H',h1,h2⟩:=SK.val hc h;obtain⟨dst,op,type,pos,after,guard⟩:=o;have key:LTo ⟨dst,op,type,pos,after,guard⟩ A H/\fM (λv H'=>next' (cE A dst v) H') ((aQ E.P ⟨dst,op,type,pos,after,guard⟩).run A.tm H):=⟨hl,by rw[h1];exact hn _ _ h2⟩;cases op with
  |call c=>
   obtain⟨ce,as,ts⟩:=c;cases ce with
   |value f=>cases hc
   |invoke _ _=>exact key
   |builtin _=>exact key
  |_=>exact key
 |true=>
  obtain⟨dst,op,type,pos,after,guard⟩:=o;cases op with
  |call c=>
   obtain⟨ce,as,ts⟩:=c;cases ce with
   |value f=>
    obtain⟨h1,h2⟩:=WE.inv h;show WE st E A dst next' H _;generalize(aQ E.P ⟨dst,.call ⟨.value f,as,ts⟩,type,pos,after,guard⟩).run A.tm H=n at h1 h2
    cases n with
    |enter fn args=>exactλlg=>(h2 lg).mono λv h' q=>⟨q.1,λlg' hx=>hn _ _ (q.2 lg' hx)⟩
    |round id args=>exactλlg=>(h2 lg).mono λv h' q=>⟨q.1,λlg' hx=>hn _ _ (q.2 lg' hx)⟩
    |_=>exact h1.elim
   |invoke _ _=>cases hc
   |builtin _=>cases hc
  |_=>cases hc
def SO.d1{st:Bool}{E:Env}{ops:List Oper}{Q:ag->Hp->Prop}:∀{l:List Oper}{j:Nat}{ms:List Nat}{before:List Nat}{did:List Did}{A:ag}{H:Hp},before.length=j->eN before did->Gb st before l ms=true->SO st E ops Q l A H->D1 E (iT E.P ops l) j ms did A H Q
 |[],j,ms,_,_,A,H,_,_,_,h=>D1.nil h
 |o::l,j,[],_,_,A,H,_,_,hs,_=>by cases hs
 |o::l,j,m::ms,before,did,A,H,hj,J2,hs,h=>by
  unfold Gb at hs;rw[aT,aT]at hs;obtain⟨⟨h4,R4⟩,F2⟩:=hs;have h4':opK o<4:=aY h4;obtain⟨hd,hg⟩:=h;have z6:(before++[opK o]).length=j+1:=by simp[hj]
  rcases qu (gOf ops o.guard) A.tm with⟨h1,h2⟩|⟨h1,h2⟩|h1
  ·rw[h1]at hg;exact SK.d1 hj J2 h4' R4 h2 hd (SK.mono hg λA' H' hn did' hd'=>SO.d1 z6 hd' F2 hn)
  ·rw[h1]at hg;exact D1.skip h2 hd (SO.d1 z6 (J2.more _) F2 hg)
  rw[h1]at hg;exact hg.elim
def R1.sq{st:Bool}{E:Env}{r:Option Nat}{A:ag}{H:Hp}{Q:ax->ag->Hp->Prop}{id:Nat}{ops:Array Oper}(hs:rD st ops=true)(h:SO st E ops.toList (λA H=>Q .normal A H) ops.toList A H):R1 E r (.region id ops true) A H Q:=by unfold rD at hs;rw[aT]at hs;exact R1.draw hs.1 (SO.d1 rfl (λu hu=>by cases hu) hs.2 h)
def SO.wo{st:Bool}{E:Env}{ops:List Oper}{Q:ag->Hp->Prop}:∀{l:List Oper}{A:ag}{H:Hp},SO st E ops Q l A H->WO E ops Q l A H
 |[],A,H,h=>h
 |o::l,A,H,⟨hd,hg⟩=>by
  refine⟨hd,?_⟩;rcases qu (gOf ops o.guard) A.tm with⟨h1,_⟩|⟨h1,_⟩|h1
  ·rw[h1]at hg |-;have R2:SK st E o A H (WO E ops Q l):=SK.mono hg λA' H' hn=>SO.wo hn;show WT E A o.dst (WO E ops Q l) H ((aQ E.P o).run A.tm H);cases hc:dE o with
   |false=>obtain⟨_,v,H',h3,h4⟩:=SK.val hc R2;rw[h3];exact h4
   |true=>
    obtain⟨dst,op,type,pos,after,guard⟩:=o;cases op with
    |call c=>
     obtain⟨ce,as,ts⟩:=c;cases ce with
     |value f=>
      obtain⟨h3,h4⟩:=WE.inv R2;generalize(aQ E.P ⟨dst,.call ⟨.value f,as,ts⟩,type,pos,after,guard⟩).run A.tm H=n at h3 h4 |-
      cases n with
      |enter fn args=>exact CS.cn h4
      |round id args=>exact CS.cn h4
      |_=>exact h3.elim
     |invoke _ _=>cases hc
     |builtin _=>cases hc
    |_=>cases hc
  ·rw[h1]at hg |-;exact SO.wo hg
  rw[h1]at hg;exact hg.elim
def SG(st:Bool)(E:Env)(Q:ag->Hp->Prop):List (Option (Option Tmp×Bool))->List Oper->ag->Hp->Prop
 |_,[],A,H=>Q A H
 |[],_::_,_,_=>False
 |g::gs,o::l,A,H=>bc o.dst A.nt=true/\SU st E o A H (SG st E Q gs l) (gw g A.tm)
def SU.mono{st:Bool}{E:Env}{o:Oper}{A:ag}{H:Hp}{next next':ag->Hp->Prop}{g:GW}(h:SU st E o A H next g)(hn:∀A H,next A H->next' A H):SU st E o A H next' g:=by
 cases g with
 |yes=>exact SK.mono h hn
 |no=>exact hn _ _ h
 |lost=>exact h.elim
def SG.so{st:Bool}{E:Env}{ops:List Oper}{Q:ag->Hp->Prop}:∀{l:List Oper}{A:ag}{H:Hp},SG st E Q (l.map λo=>gOf ops o.guard) l A H->SO st E ops Q l A H
 |[],_,_,h=>h
 |_::_,_,_,⟨h1,h2⟩=>⟨h1,SU.mono h2 λ_ _ h=>SG.so h⟩
def tx(v:AV)(f:Bool->Prop):Prop:=match v with|.one (.b b)=>f b|_=>False
def HD{b:Bool}{f:Bool->Prop}:tx (.one (.b b)) f=f b:=rfl
section
variable{E:Env}{r:Option Nat}{A:ag}{H:Hp}{Q:ax->ag->Hp->Prop}{x y z:Code}
def R1.wY{id:Nat}{ops:Array Oper}(h:∀K:ag->Hp->Prop,(∀A H,R1 E r z A H Q->K A H)->SG false E K (ops.toList.map λo=>gOf ops.toList o.guard) ops.toList A H):R1 E r (.seq (.region id ops false) z) A H Q:=
 R1.seq (R1.reg (SO.wo (SG.so (h _ λ_ _ h=>h))))
def R1.JR{id:Nat}{ops:Array Oper}(hs:rD false ops=true)(h:∀K:ag->Hp->Prop,(∀A H,R1 E r z A H Q->K A H)->SG false E K (ops.toList.map λo=>gOf ops.toList o.guard) ops.toList A H):R1 E r (.seq (.region id ops true) z) A H Q:=
 R1.seq (R1.sq hs (SG.so (h _ λ_ _ h=>h)))
def R1.aa9{id:Nat}{ops:Array Oper}(hs:rD true ops=true)(h:∀K:ag->Hp->Prop,(∀A H,R1 E r z A H Q->K A H)->SG true E K (ops.toList.map λo=>gOf ops.toList o.guard) ops.toList A H):R1 E r (.seq (.region id ops true) z) A H Q:=
 R1.seq (R1.sq hs (SG.so (h _ λ_ _ h=>h)))
def R1.e_sg{id:Nat}{ops:Array Oper}(hs:rD true ops=true)(h:∀K:ag->Hp->Prop,(∀A H,Q .normal A H->K A H)->SG true E K (ops.toList.map λo=>gOf ops.toList o.guard) ops.toList A H):R1 E r (.region id ops true) A H Q:=
 R1.sq hs (SG.so (h _ λ_ _ h=>h))
def R1.Lk{id:Nat}{ops:Array Oper}(h:∀K:ag->Hp->Prop,(∀A H,Q .normal A H->K A H)->SG false E K (ops.toList.map λo=>gOf ops.toList o.guard) ops.toList A H):R1 E r (.region id ops false) A H Q:=
 R1.reg (SO.wo (SG.so (h _ λ_ _ h=>h)))
def R1.Ll{id:Nat}{ops:Array Oper}(hs:rD false ops=true)(h:∀K:ag->Hp->Prop,(∀A H,Q .normal A H->K A H)->SG false E K (ops.toList.map λo=>gOf ops.toList o.guard) ops.toList A H):R1 E r (.region id ops true) A H Q:=
 R1.sq hs (SG.so (h _ λ_ _ h=>h))
def R1.SZ{c:Operand}{b:Bool}(hc:ev A.tm c=.one (.b b))(h1:b=true->R1 E r x A H Q)(h2:b=false->R1 E r y A H Q):R1 E r (.cond c x y) A H Q:=by
 refine R1.cond hc ?_;cases b with
 |true=>exact h1 rfl
 |false=>exact h2 rfl
def R1.Ed{c:Operand}(h:∀Kx Ky:Prop,(R1 E r (.seq x z) A H Q->Kx)->(R1 E r (.seq y z) A H Q->Ky)->tx (ev A.tm c) λb=>if b=true then Kx else Ky):R1 E r (.seq (.cond c x y) z) A H Q:=by
 have h:=h _ _ id id;unfold tx at h;split at h
 ·rename_i b hc
  cases b with
  |true=>exact R1.Vh hc (λ_=>h) (λh=>by cases h)
  |false=>exact R1.Vh hc (λh=>by cases h) (λ_=>h)
 exact h.elim
def R1.CG{c:Operand}(h:∀Kx Ky:Prop,(R1 E r x A H Q->Kx)->(R1 E r y A H Q->Ky)->tx (ev A.tm c) λb=>if b=true then Kx else Ky):R1 E r (.cond c x y) A H Q:=by
 have h:=h _ _ id id;unfold tx at h;split at h
 ·rename_i b hc
  cases b with
  |true=>exact R1.SZ hc (λ_=>h) (λh=>by cases h)
  |false=>exact R1.SZ hc (λh=>by cases h) (λ_=>h)
 exact h.elim
def kG{c:Prop}[Decidable c]{X Y:Prop}(h1:c->X)(h2:¬c->Y):if c then X else Y:=by
 by_cases h:c
 ·rw[ad h];exact h1 h
 rw[ab h];exact h2 h
def R1.lp(P:ag->Prop)(hp:P A)(h:∀A2,P A2->R1 E r x A2 H Q):R1 E r x A H Q:=h A hp
def R1.gen(P:ag->Hp->Prop)(hp:P A H)(h:∀A2 H2,P A2 H2->R1 E r x A2 H2 Q):R1 E r x A H Q:=h A H hp
end
section
variable{st:Bool}{E:Env}{Q:ag->Hp->Prop}{gs:List (Option (Option Tmp×Bool))}{l:List Oper}{o:Oper}{A:ag}{H:Hp}{next:ag->Hp->Prop}{g:Option (Option Tmp×Bool)}
def RI:SG st E Q gs [] A H=Q A H:=by cases gs<;>rfl
def ML:SG st E Q (g::gs) (o::l) A H=(bc o.dst A.nt=true/\SU st E o A H (SG st E Q gs l) (gw g A.tm)):=rfl
def RP:SU st E o A H next .yes=SK st E o A H next:=rfl
def Yu:SU st E o A H next .no=next (cE A o.dst aP) H:=rfl
def aaT{tm:PT AV}:gw none tm=.yes:=rfl
def YE{ops:List Oper}:gOf ops none=none:=rfl
def jK{α:Type}(o:Option α)(f:α->Prop):Prop:=match o with|some a=>f a|none=>False
def DJ{α:Type}{a:α}{f:α->Prop}:jK (some a) f=f a:=rfl
def aaD(v:AV)(f:Bool->Prop):Prop:=match v with|.one (.b b)=>f b|_=>False
def vN(next:ag->Hp->Prop)(A:ag)(d:Option Tmp)(n:aj):Prop:=fM (λv H'=>next (cE A d v) H') n
def VM{d:Option Tmp}{v:AV}{H':Hp}:vN next A d (.val v H')=next (cE A d v) H':=rfl
def ldN(next:ag->Hp->Prop)(A:ag)(d:Option Tmp)(H:Hp)(o:Option (Bool×Nat))(v:AV):Prop:=jK o λp=>vN next A d (dB H p.1 p.2 v)
def IS{d:Option Tmp}{a:Bool}{n:Nat}{v:AV}:ldN next A d H (some (a,n)) v=vN next A d (dB H a n v):=rfl
def stN(next:ag->Hp->Prop)(A:ag)(d:Option Tmp)(H:Hp)(o:Option Nat)(a x:AV):Prop:=jK o λn=>vN next A d (kD H n x a)
def Kf{d:Option Tmp}{n:Nat}{a x:AV}:stN next A d H (some n) a x=vN next A d (kD H n x a):=rfl
def faN(next:ag->Hp->Prop)(A:ag)(d:Option Tmp)(H:Hp)(o:Option (Nat×TypeId×Nat))(v:AV):Prop:=jK o λp=>vN next A d (iD H p.1 p.2.2 v)
def Ig{d:Option Tmp}{fo t n:Nat}{v:AV}:faN next A d H (some (fo,t,n)) v=vN next A d (iD H fo n v):=rfl
def iaN(next:ag->Hp->Prop)(A:ag)(d:Option Tmp)(H:Hp)(o:Option (TypeId×Nat))(q:Option (Nat×Nat))(x i:AV):Prop:=match o with|some p=>vN next A d (dq H p.2 x i)|none=>jK q λc=>vN next A d (fh H c.1 c.2 x i)
def Iy{d:Option Tmp}{t n:Nat}{q:Option (Nat×Nat)}{x i:AV}:iaN next A d H (some (t,n)) q x i=vN next A d (dq H n x i):=rfl
def NV{d:Option Tmp}{n k:Nat}{x i:AV}:iaN next A d H none (some (n,k)) x i=vN next A d (fh H n k x i):=rfl
def lnN(next:ag->Hp->Prop)(A:ag)(d:Option Tmp)(H:Hp)(o:Option Nat)(x:AV):Prop:=jK o λk=>vN next A d (eo H k x)
def IY{d:Option Tmp}{k:Nat}{x:AV}:lnN next A d H (some k) x=vN next A d (eo H k x):=rfl
def pkN(next:ag->Hp->Prop)(A:ag)(d:Option Tmp)(H:Hp)(c x y:AV):Prop:=aaD c λb=>next (cE A d (if b=true then x else y)) H
def YN{d:Option Tmp}{b:Bool}{x y:AV}:pkN next A d H (.one (.b b)) x y=next (cE A d (if b=true then x else y)) H:=rfl
def Vl(H:Hp)(o:Option (TypeId×Nat))(x:AV)(lo hi:Option AV)(alt:aj):aj:=match o with|some p=>ep H p.2 x lo hi alt|none=>alt
def xW{H:Hp}{t n:Nat}{x:AV}{lo hi:Option AV}{alt:aj}:Vl H (some (t,n)) x lo hi alt=ep H n x lo hi alt:=rfl
def Gu{α:Type}{P:AV->Hp->Prop}{o:Option α}{s:String}{f:α->aj}:fM P (nd o s f)=jK o λa=>fM P (f a):=by cases o<;>rfl
def Mv{P:AV->Hp->Prop}{b:Bool}{s:String}{n:aj}:fM P (aK b s n)=(b=true/\fM P n):=by
 cases b
 ·exact propext ⟨λh=>h.elim,λh=>by cases h.1⟩
 exact propext ⟨λh=>⟨rfl,h⟩,λh=>h.2⟩
def du{α:Type}{P:AV->Hp->Prop}{o:Option α}{s:String}{f:α->SF}{tm:PT AV}:fM P ((ndF o s f).run tm H)=jK o λa=>fM P ((f a).run tm H):=by cases o<;>rfl
def Oh{id g' off lim n:Nat}:ltV (.one (.o (.ptr id g' off lim))) n=(id<n):=propext ⟨λh=>h id (List.mem_singleton.2 rfl),λh i hi=>by rw[List.mem_singleton.1 hi];exact h⟩
def FI{id g' off len sz n:Nat}:ltV (.one (.o (.sl id g' off len sz))) n=(id<n):=propext ⟨λh=>h id (List.mem_singleton.2 rfl),λh i hi=>by rw[List.mem_singleton.1 hi];exact h⟩
def yC{n:Nat}:ltV (.one (.o .nilS)) n=True:=propext ⟨λ_=>trivial,λ_ i hi=>by cases hi⟩
def Oi{n:Nat}{s:List UInt8}:ltV (.one (.o (.str s))) n=True:=propext ⟨λ_=>trivial,λ_ i hi=>by cases hi⟩
def sj{v:AC}{sz k:Nat}{c:List AC}(h:SlC H v sz k c):ltV (.one v) H.nx:=by
 rcases h.2 with⟨rfl,_⟩|⟨id,g,off,rfl,hid,_⟩
 ·rw[yC];trivial
 rw[FI];exact hid
variable{d:Option Tmp}{ty:TypeId}{pos:String}{af:Array Edge}{gd:Option (Nat×Bool)}
def oW{p:Prop}:(True/\p)=p:=propext ⟨λh=>h.2,λh=>⟨trivial,h⟩⟩
def EA{x:Operand}:SK st E ⟨d,.move x,ty,pos,af,gd⟩ A H next=next (cE A d (ev A.tm x)) H:=by cases x<;>exact oW
def wz{x:Operand}:SK st E ⟨d,.assign x,ty,pos,af,gd⟩ A H next=next (cE A d (ev A.tm x)) H:=by cases x<;>exact oW
def MO{c x y:Operand}:SK st E ⟨d,.pick c x y,ty,pos,af,gd⟩ A H next=pkN next A d H (ev A.tm c) (ev A.tm x) (ev A.tm y):=by
 refine oW.trans ?_;show fM _ (fw (ev A.tm c) (.bad "pick") λb=>.val (ifE b (ev A.tm x) (ev A.tm y)) H)=_
 cases ev A.tm c with
 |one q=>cases q with|b b=>cases b<;>rfl|_=>rfl
 |_=>rfl
def GV{e:TypeId}:SK st E ⟨d,.alloc e,ty,pos,af,gd⟩ A H next=jK ((ba E.P e).map λz=>(ofValue z).cells) λc=>next (cE A d (.one (.o (.ptr H.nx 0 0 c.length)))) (H.new (.arr c e 0 0)):=by
 refine oW.trans ?_;show fM _ ((ndF (ba E.P e) _ _).run A.tm H)=_;rw[du];cases ba E.P e with
 |none=>rfl
 |some z=>show next (cE A d (.one (.o (.ptr H.nx 0 0 (bU (ofValue z).cells))))) _=_;rw[bP];rfl
def RK{e:TypeId}{x:Operand}:SK st E ⟨d,.box e x,ty,pos,af,gd⟩ A H next=((ev A.tm x).cd=true/\next (cE A d (.one (.o (.ptr H.nx 0 0 (ev A.tm x).cells.length)))) (H.new (.arr (ev A.tm x).cells e 0 0))):=by refine oW.trans ?_;show fM _ (aK (ev A.tm x).cd _ (mN H (ev A.tm x).cells e))=_;rw[Mv];unfold mN;rw[bP];rfl
def MN{t:TypeId}{x:Operand}:SK st E ⟨d,.load t x,ty,pos,af,gd⟩ A H next=(ltV (ev A.tm x) H.nx/\ldN next A d H (loadT E.P t) (ev A.tm x)):=by show(_/\fM _ ((ndF (loadT E.P t) _ _).run A.tm H))=_;rw[du];rfl
def GZ{t:TypeId}{a x:Operand}:SK st E ⟨d,.store t a x,ty,pos,af,gd⟩ A H next=(ltV (ev A.tm a) H.nx/\stN next A d H (cD E.P t) (ev A.tm a) (ev A.tm x)):=by show(_/\fM _ ((ndF (cD E.P t) _ _).run A.tm H))=_;rw[du];rfl
def RJ{op:BinOp}{t:TypeId}{x y:Operand}{c:TypeId}:SK st E ⟨d,.binOp op t x y c,ty,pos,af,gd⟩ A H next=vN next A d (cr H (dp E.P t) op (fL op) (ev A.tm x) (ev A.tm y) (aA E.P A.tm H ⟨d,.binOp op t x y c,ty,pos,af,gd⟩)):=oW
def RN{t:TypeId}{x:Operand}:SK st E ⟨d,.unOp .not t x,ty,pos,af,gd⟩ A H next=vN next A d (fw (ev A.tm x) (aA E.P A.tm H ⟨d,.unOp .not t x,ty,pos,af,gd⟩) λb=>.val (.one (.b (!b))) H):=oW
def zt{a b:TypeId}{x:Operand}:SK st E ⟨d,.convert a b x,ty,pos,af,gd⟩ A H next=vN next A d (aA E.P A.tm H ⟨d,.convert a b x,ty,pos,af,gd⟩):=oW
def uk{s:TypeId}{x:Operand}{f:Nat}:SK st E ⟨d,.fieldAddr s x f,ty,pos,af,gd⟩ A H next=faN next A d H (bK E.P s f) (ev A.tm x):=by refine oW.trans ?_;show fM _ ((ndF (bK E.P s f) _ _).run A.tm H)=_;rw[du];rfl
def um{t:TypeId}{x i:Operand}:SK st E ⟨d,.indexAddr t x i,ty,pos,af,gd⟩ A H next=iaN next A d H (bV E.P t) (Ho E.P t) (ev A.tm x) (ev A.tm i):=by
 refine oW.trans ?_;cases he:bV E.P t with
 |none=>simp only[aQ,he];show fM _ ((ndF (Ho E.P t) _ _).run A.tm H)=_;rw[du];rfl
 |some p=>simp only[aQ,he];rfl
def GY{t:TypeId}{x:Operand}{lo hi:Option Operand}:SK st E ⟨d,.slice t x lo hi none,ty,pos,af,gd⟩ A H next=vN next A d (Vl H (bV E.P t) (ev A.tm x) (lo.map (ev A.tm)) (hi.map (ev A.tm)) (aA E.P A.tm H ⟨d,.slice t x lo hi none,ty,pos,af,gd⟩)):=by
 refine oW.trans ?_;cases he:bV E.P t with
 |none=>
  have:aQ E.P ⟨d,.slice t x lo hi none,ty,pos,af,gd⟩=.mk λtm h=>aA E.P tm h ⟨d,.slice t x lo hi none,ty,pos,af,gd⟩:=by simp[aQ,he]
  rw[this];rfl
 |some p=>
  have:aQ E.P ⟨d,.slice t x lo hi none,ty,pos,af,gd⟩=.mk λtm h=>ep h p.2 ((opF x).ev tm) (lo.map (ev tm)) (hi.map (ev tm)) (aA E.P tm h ⟨d,.slice t x lo hi none,ty,pos,af,gd⟩):=by simp[aQ,he]
  rw[this];rfl
def zu{x:Operand}{i:Nat}:SK st E ⟨d,.extract x i,ty,pos,af,gd⟩ A H next=vN next A d (dP H (ev A.tm x) i):=oW
def xt{x:Operand}:SK st E ⟨d,.nilCheck x,ty,pos,af,gd⟩ A H next=vN next A d (jm H (ev A.tm x)):=oW
def xr{f:FuncId}{cs:Array Operand}:SK st E ⟨d,.makeFunc (.func f) #[] cs,ty,pos,af,gd⟩ A H next=jK (jQ (evs cs.toList A.tm)) λc=>next (cE A d (.one (.o (.clo f c)))) H:=by refine oW.trans ?_;show fM _ (nd (jQ (evs cs.toList A.tm)) _ _)=_;rw[Gu];rfl
def zv{t:TypeId}:SK st E ⟨d,.makeMap t none,ty,pos,af,gd⟩ A H next=next (cE A d (.one (.o (.mp H.nx)))) (H.new (.oth (.map [] 0))):=oW
def uq{t:TypeId}{x c:Operand}:SK st E ⟨d,.makeSlice t x c,ty,pos,af,gd⟩ A H next=vN next A d (dN E.P H t (ev A.tm x) (ev A.tm c)):=oW
def GX{t:TypeId}{ps:Array (Nat×Operand)}:SK st E ⟨d,.build t ps,ty,pos,af,gd⟩ A H next=jK ((ba E.P t).map λz=>(ofValue z).cells) λz=>jK (iR E.P t) λpl=>jK (eE pl ps.toList) λq=>jK (kr A.tm q z) λc=>next (cE A d (.agg c)) H:=by
 refine oW.trans ?_;show fM _ ((ndF (ba E.P t) _ _).run A.tm H)=_;rw[du];cases ba E.P t with
 |none=>rfl
 |some z=>
  show fM _ ((ndF (iR E.P t) _ _).run A.tm H)=_;rw[du];cases iR E.P t with
  |none=>rfl
  |some pl=>
   show fM _ ((ndF (eE pl ps.toList) _ _).run A.tm H)=jK (eE pl ps.toList) _;rw[du];cases eE pl ps.toList with
   |none=>rfl
   |some q=>show fM _ (nd (kr A.tm q (ofValue z).cells) _ _)=_;rw[Gu];rfl
def ta{t:TypeId}{n:Nat}{ps:Array (Nat×Operand)}:SK st E ⟨d,.buildSlice t n ps,ty,pos,af,gd⟩ A H next=jK (bV E.P t) λes=>jK ((ba E.P es.1).map λz=>(ofValue z).cells) λz=>
  (n*es.2<=16777216/\z.length=es.2)/\jK (eE (λi=>some (i*es.2,es.2)) ps.toList) λq=>jK (kr A.tm q (mL z n)) λc=>next (cE A d (.one (.o (.sl H.nx 0 0 n es.2)))) (H.new (.arr c es.1 0 0)):=by
 refine oW.trans ?_;show fM _ ((ndF (bV E.P t) _ _).run A.tm H)=_;rw[du];cases bV E.P t with
 |none=>rfl
 |some es=>
  show fM _ ((ndF (ba E.P es.1) _ _).run A.tm H)=_;rw[du];show jK (ba E.P es.1) _=jK ((ba E.P es.1).map λz=>(ofValue z).cells) _;cases ba E.P es.1 with
  |none=>rfl
  |some z=>
   show fM _ ((Eng.ifE (both (Nat.ble (Nat.mul n es.2) 16777216) (Nat.beq (bU (ofValue z).cells) es.2)) _ _:SF).run A.tm H)=(_/\_);rw[dv,bP];have hbc:((Nat.ble (Nat.mul n es.2) 16777216&&Nat.beq (ofValue z).cells.length es.2)=true)↔(n*es.2<=16777216/\(ofValue z).cells.length=es.2):=by rw[aT,xh,xi];exact Iff.rfl
   cases hb:(Nat.ble (Nat.mul n es.2) 16777216&&Nat.beq (ofValue z).cells.length es.2)with
   |false=>exact propext ⟨λh=>h.elim,λh=>by have:=hbc.2 h.1;rw[hb]at this;cases this⟩
   |true=>
    refine Eq.trans ?_ (propext ⟨λh=>⟨hbc.1 hb,h⟩,λh=>h.2⟩);show fM _ ((ndF (eE (λi=>some (i*es.2,es.2)) ps.toList) _ _).run A.tm H)=_;rw[du];cases eE (λi=>some (i*es.2,es.2)) ps.toList with
    |none=>rfl
    |some q=>show fM _ (nd (kr A.tm q (mL (ofValue z).cells n)) _ _)=_;rw[Gu];rfl
def RM{x:Operand}{t:TypeId}:SK st E ⟨d,.call ⟨.builtin .len,#[x],#[t]⟩,ty,pos,af,gd⟩ A H next=(ltV (ev A.tm x) H.nx/\lnN next A d H (kI E.P t) (ev A.tm x)):=by show(_/\fM _ ((ndF (kI E.P t) _ _).run A.tm H))=_;rw[du];rfl
def Cg{s x:Operand}{t:TypeId}:SK st E ⟨d,.call ⟨.builtin .append,#[s,x],#[t,t]⟩,ty,pos,af,gd⟩ A H next=((ltV (ev A.tm s) H.nx/\ltV (ev A.tm x) H.nx)/\vN next A d (bN E.P H t (ev A.tm s) (ev A.tm x))):=by
 show(_/\fM _ ((Eng.ifE (Nat.beq t t) (.mk λtm h=>bN E.P h t (ev tm s) (ev tm x)) (gW "append - types"):SF).run A.tm H))=_
 rw[cN];rfl
def MM{f:Operand}{as:Array Operand}{ts:Array TypeId}:SK st E ⟨d,.call ⟨.value f,as,ts⟩,ty,pos,af,gd⟩ A H next=WE st E A d next H (tG E.P (ev A.tm f) (evs as.toList A.tm)):=rfl
def Ah{P:Program}{f:FuncId}{caps:List (Nat×Nat×Nat×Nat)}{args:List AV}(h:aq P f=true):tG P (.one (.o (.clo f caps))) args=.enter f (args++gi caps):=by show aK (aq P f) _ _=_;rw[h];rfl
def zY:jQ []=some []:=rfl
def xw{id g off lim:Nat}{l:List AV}:jQ (.one (.o (.ptr id g off lim))::l)=(jQ l).map λr=>(id,g,off,lim)::r:=by show(match jQ l with|some r=>some ((id,g,off,lim)::r)|none=>none)=_;cases jQ l<;>rfl
def xv:gi []=[]:=rfl
def uI{id g off lim:Nat}{l:List (Nat×Nat×Nat×Nat)}:gi ((id,g,off,lim)::l)=.one (.o (.ptr id g off lim))::gi l:=rfl
def CA{c:AC}:(AV.one c).cells=[c]:=congrArg (λn=>n) (rfl:[c]=[c])
def Cz{c:List AC}:(AV.agg c).cells=c:=congrArg (λn=>n) (rfl:c=c)
def DC{c:AC}:(AV.one c).cd=true:=congrArg (λn=>n) (rfl:true=true)
def DB{c:List AC}:(AV.agg c).cd=true:=congrArg (λn=>n) (rfl:true=true)
def aaO{c:AC}{l:List (Bool×List AC)}:dP H (.tup ((false,[c])::l)) 0=.val (.one c) H:=rfl
def YD{c:List AC}{l:List (Bool×List AC)}:dP H (.tup ((true,c)::l)) 0=.val (.agg c) H:=rfl
def aaP{c:AC}{x:Bool×List AC}{l:List (Bool×List AC)}:dP H (.tup (x::(false,[c])::l)) 1=.val (.one c) H:=rfl
def IW{s:List UInt8}:eo H 0 (.one (.o (.str s)))=.val (.one (.i .i64 (s.length:Int))) H:=by show aj.val (Qj (Qr s)) H=_;rw[FD];rfl
def Bh{pl:Nat->Option (Nat×Nat)}:eE pl []=some []:=rfl
def xP{pl:Nat->Option (Nat×Nat)}{i:Nat}{x:Operand}{l:List (Nat×Operand)}:eE pl ((i,x)::l)=(pl i).bind λp=>(eE pl l).map λr=>(p.1,p.2,opF x)::r:=by show(match pl i,eE pl l with|some p,some r=>some ((p.1,p.2,opF x)::r)|_,_=>none)=_;cases pl i<;>cases eE pl l<;>rfl
def Il{tm:PT AV}{c:List AC}:kr tm [] c=some c:=rfl
def Dc{tm:PT AV}{o n:Nat}{f:OpF}{l:List (Nat×Nat×OpF)}{c:List AC}(h1:(f.ev tm).cells.length=n)(h2:o+n<=c.length)(h3:(f.ev tm).cd=true):kr tm ((o,n,f)::l) c=kr tm l (c.take o++((f.ev tm).cells++c.drop (o+n))):=by show Eng.ifE (both (Nat.beq (bU (f.ev tm).cells) n) (both (Nat.ble (Nat.add o n) (bU c)) (f.ev tm).cd)) (kr tm l (gO c o (f.ev tm).cells)) none=_;have e2:Nat.ble (Nat.add o n) c.length=true:=bG h2;rw[bP,bP,h1,cN,e2,h3,kT,h1];rfl
def Vb{z:List AC}:mL z 1=z:=by
 show pE z []=z;induction z with
 |nil=>rfl
 |cons x z ih=>show x::pE z []=_;rw[ih]
def Vm{id g off len sz i:Nat}{k:IntKind}{alt:aj}(h:i<=len):ep H sz (.one (.o (.sl id g off len sz))) (some (.one (.i k (i:Int)))) none alt=.val (.one (.o (.sl id g (off+i*sz) (len-i) sz))) H:=by show aK (both (Nat.beq sz sz) (both (Nat.ble i len) (Nat.ble len len))) _ _=_;rw[cN,bG h,bG (ai len)];rfl
def JX{id g off len sz i:Nat}{k:IntKind}{alt:aj}(h:i<=len):ep H sz (.one (.o (.sl id g off len sz))) none (some (.one (.i k (i:Int)))) alt=.val (.one (.o (.sl id g off i sz))) H:=by show aK (both (Nat.beq sz sz) (both (Nat.ble 0 i) (Nat.ble i len))) _ _=_;rw[cN,bG (Nat.zero_le i),bG h];show aj.val (.one (.o (.sl id g (off+0*sz) (i-0) sz))) H=_;rw[Nat.zero_mul,Nat.add_zero,Nat.sub_zero]
def xF{id g off len sz:Nat}(h:0<len):dq H sz (.one (.o (.sl id g off len sz))) (.one (.i .i64 0))=.val (.one (.o (.ptr id g off sz))) H:=by have:=lA (H:=H) (id:=id) (g:=g) (off:=off) (sz:=sz) (i:=0) h;rw[Nat.zero_mul,Nat.add_zero]at this;exact this
def Uf{id g off n sz:Nat}:eo H 1 (.one (.o (.sl id g off n sz)))=.val (.one (.i .i64 (n:Int))) H:=rfl
def Ue:eo H 1 (.one (.o .nilS))=.val (.one (.i .i64 0)) H:=rfl
end
section
variable{H:Hp}{o:aX}{i k a b c:Nat}
def aJ(h:i=H.nx):(H.new o).get i=some o:=by rw[Is,ad h]
def bu(h:i<H.nx):(H.new o).get i=H.get i:=by rw[Is,ab aa]
def ao(h:i=k):(H.mod k o).get i=some o:=by rw[Ir,ad h]
def az(h:i≠k):(H.mod k o).get i=H.get i:=by rw[Ir,ab h]
def Ar(tm:PT AV)(t:Nat):ev tm (.tmp t)=slot tm t:=congrArg (λn=>n) (rfl:slot tm t=slot tm t)
def YL(tm:PT AV)(x:Operand):(opF x).ev tm=ev tm x:=congrArg (λn=>n) (rfl:ev tm x=ev tm x)
def aaL{n:Nat}:((((n+1:Nat):Int))==0)=false:=beq_eq_false_iff_ne.2 aa
def Yy:(((0:Nat):Int))=0:=congrArg (λn=>n) (rfl:(0:Int)=0)
def xM:(H.new o).nx=H.nx+1:=congrArg (λn=>n) (rfl:H.nx+1=H.nx+1)
def Ox:(H.mod k o).nx=H.nx:=congrArg (λn=>n) (rfl:H.nx=H.nx)
def YJ(h:a<b):(a<b+c)=True:=cK aa
def aaN(h:a<b):(a=b)=False:=bT aa
def aaM(h:b<a):(a=b)=False:=bT aa
def YA(h:a<b):(a=b+c)=False:=bT aa
end
def aI{n:Int}(h1:-9223372036854775808<=n)(h2:n<=9223372036854775807):IntKind.i64.wrap n=n:=by rw[IntKind.wrap_i64];omega
def Con(E:Env)(f:FuncId)(args:List AV)(H:Hp)(X:Nat->Prop)(Q:AV->Hp->Prop):Prop:=
 ∀lg,N1 E ⟨H.t,H.nx,lg⟩ (.enter f args) λv h'=>Fr X ⟨H.t,H.nx,lg⟩ h'/\∀lg',Q v ⟨h'.t,h'.nx,lg'⟩
section
variable{E:Env}{f:FuncId}{args:List AV}{H:Hp}{X:Nat->Prop}{Q:AV->Hp->Prop}
def Con.cn{next:AV->Hp->Prop}(h:Con E f args H X Q)(hn:∀v H',Fr X H H'->Q v H'->next v H'):CN E H (.enter f args) next:=λlg=>
 (h lg).mono λv h'⟨h1,h2⟩lg' hx=>hn _ _ (hx X h1) (h2 lg')
def WE.con{A:ag}{d:Option Tmp}{next:ag->Hp->Prop}(h:Con E f args H X Q)(hn:∀v H',Fr X H H'->Q v H'->next (cE A d v) H'):WE false E A d next H (.enter f args):=λlg=>
 (h lg).mono λ_ _⟨h1,h2⟩=>⟨λh=>(by cases h),λlg' hx=>hn _ _ (hx X h1) (h2 lg')⟩
def WE.BT{st:Bool}{A:ag}{d:Option Tmp}{next:ag->Hp->Prop}(h:Con E f args H (λ_=>False) Q)(hn:∀v H',Gr H H'->Q v H'->next (cE A d v) H'):WE st E A d next H (.enter f args):=λlg=>
 (h lg).mono λ_ _⟨h1,h2⟩=>⟨λ_=>h1,λlg' hx=>hn _ _ (hx _ h1) (h2 lg')⟩
def WE.eu{st:Bool}{A:ag}{d:Option Tmp}{next:ag->Hp->Prop}{v:AV}(hp:E.eu f args=some v)(hn:∀H',Gr H H'->H'.nx=H.nx->(∀i,H'.get i=H.get i)->next (cE A d v) H'):WE st E A d next H (.enter f args):=λlg=>N1.eu hp ⟨λ_=>Fr.refl _,λlg' hx=>hn ⟨H.t,H.nx,lg'⟩ (hx _ (Fr.refl _)) rfl λ_=>rfl⟩
def MP{st:Bool}{o:Oper}{A:ag}{next:ag->Hp->Prop}{c:Prop}[Decidable c](h1:c->SU st E o A H next .yes)(h2:¬c->SU st E o A H next .no):SU st E o A H next (if c then .yes else .no):=by
 by_cases h:c
 ·rw[ad h];exact h1 h
 rw[ab h];exact h2 h
def Con.of(hp:E.eu f args=none)(h:∀lg,C1 E f args ⟨H.t,H.nx,lg⟩ λv h'=>Fr X ⟨H.t,H.nx,lg⟩ h'/\∀lg',Q v ⟨h'.t,h'.nx,lg'⟩)(hq:∀lg,E.dW f args ⟨H.t,H.nx,lg⟩=none:=by intro _;rfl):Con E f args H X Q:=λlg=>N1.call hp (hq lg) (h lg)
def Con.dW{v:AV}{id:Nat}{o:aX}(hp:E.eu f args=none)(hq:∀lg,E.dW f args ⟨H.t,H.nx,lg⟩=some (v,id,o))(h:∀lg,Q v ⟨(H.mod id o).t,(H.mod id o).nx,lg⟩):Con E f args H (λk=>k=id) Q:=λlg=>N1.dW hp (hq lg) ⟨(Fr.refl _).mod _ (.inr rfl),h⟩
def Con.eu{v:AV}(hp:E.eu f args=some v)(h:∀lg,Q v ⟨H.t,H.nx,lg⟩):Con E f args H X Q:=λlg=>N1.eu hp ⟨Fr.refl _,h⟩
end
def bz{α β:Type}{P:Program}(f:α->Sem β):∀x:Sem α,aG P (x.bind f)=(aG P x).bind λa=>aG P (f a)
 |.pure a=>rfl
 |.load _ _ _=>rfl
 |.store _ _ _ _=>rfl
 |.new _ _=>rfl
 |.shape _ _=>rfl
 |.freeze _ _ _=>rfl
 |.frozen _ _=>rfl
 |.getObj _ _=>rfl
 |.setObj _ _ _=>rfl
 |.choose _ _=>rfl
 |.sys _ _=>rfl
 |.program k=>bz f (k P)
 |.mark _ k=>bz f k
 |.halt _=>rfl
def bM{α β:Type}{P:Program}(f:α->Sem β)(x:Sem α):aG P (x >>= f)=(aG P x).bind λa=>aG P (f a):=bz f x
def PQ{P:Program}{t:TypeId}{n:Nat}(h:aG P (underlying t)=some .string)(a b:ByteArray):aG P (Op.equalIn (n+1) t (.string a) (.string b))=some (a==b):=by unfold Op.equalIn;rw[bM,h];rfl
def eq_int{P:Program}{t:TypeId}{n:Nat}{k:IntKind}(h:aG P (underlying t)=some (.int k))(k':IntKind)(a b:Int):aG P (Op.equalIn (n+1) t (.int k' a) (.int k' b))=some (a==b):=by unfold Op.equalIn;rw[bM,h];show aG P (if k'=k' then pure (a==b)else _)=_;rw[ad rfl];rfl
def NH{P:Program}{t:TypeId}{n:Nat}(h:aG P (underlying t)=some .bool)(a b:Bool):aG P (Op.equalIn (n+1) t (.bool a) (.bool b))=some (a==b):=by unfold Op.equalIn;rw[bM,h];rfl
def xH{P:Program}(g:Field->Sem Bool):∀(fs:List Field)(bs:List Bool),(∀f∈fs,f.name ≠ "_")->fs.map (λf=>aG P (g f))=bs.map some ->
  aG P (forIn fs ((none,()):Option Bool×Unit) λf __s=>(if f.name ≠ "_" then(g f).bind λb=>if(!b)=true then pure (ForInStep.done (some false,()))else pure (ForInStep.yield (none,()))else pure (ForInStep.yield (none,())):Sem (ForInStep (Option Bool×Unit)))) =
   some (if bs.all id=true then(none,())else(some false,()))
 |[],[],_,_=>rfl
 |[],_::_,_,h=>by cases h
 |_::_,[],_,h=>by cases h
 |f::fs,b::bs,hn,h=>by
  simp only[List.map_cons,sH]at h;have ih:=xH g fs bs (λf hf=>hn f (aU _ hf)) h.2;rw[List.forIn_cons,bM,ad (hn f (bh ..)),bz,h.1];simp only[Option.bind_some];cases b with
  |false=>rfl
  |true=>show aG P _=_;refine ih.trans ?_;rfl
def PR{P:Program}{t:TypeId}{n:Nat}{fs:Array Field}(h:aG P (underlying t)=some (.struct fs))(hs:P.stoodInHeld t=false) (hn:∀f∈fs.toList,f.name ≠ "_") (xs ys:Array Value) (bs:List Bool)
  (hf:fs.toList.map (λf=>aG P ((part f.type xs f.offset).bind λa=>(part f.type ys f.offset).bind λb=>Op.equalIn n f.type a b))=bs.map some):
  aG P (Op.equalIn (n+1) t (.agg xs) (.agg ys))=some (bs.all id):=by
 unfold Op.equalIn;rw[bM,h];simp only[Option.bind_some];rw[bM];have hp:aG P program=some P:=rfl;rw[hp];simp only[Option.bind_some,hs];rw[ab aE,bM];have key:=xH (P:=P) (λf=>(part f.type xs f.offset).bind λa=>(part f.type ys f.offset).bind λb=>Op.equalIn n f.type a b) fs.toList bs hn hf;have e:aG P (forIn fs ((none,()):Option Bool×Unit) λf __s=>(if f.name ≠ "_" then do
        let __do_lift <-part f.type xs f.offset
        let __do_lift_1 <-part f.type ys f.offset
        let __do_lift <-Op.equalIn n f.type __do_lift __do_lift_1
        if(!__do_lift)=true then pure (ForInStep.done (some false,()))
         else pure (ForInStep.yield (none,()))
       else pure (ForInStep.yield (none,())):Sem (ForInStep (Option Bool×Unit))))=some (if bs.all id=true then(none,())else(some false,())):=by
  rw[<-key,<-Array.forIn_toList];congr 2
  funext f s
  split
  ·show Sem.bind _ _=Sem.bind _ _;have asc:∀{α β γ:Type}(x:Sem α)(f:α->Sem β)(g:β->Sem γ),(x.bind f).bind g=x.bind λa=>(f a).bind g:=by
    intro α β γ x f g;induction x with
    |pure a=>rfl
    |load m a k ih=>simp only[Sem.bind,ih]
    |store m a v k ih=>simp only[Sem.bind,ih]
    |new o k ih=>simp only[Sem.bind,ih]
    |shape r k ih=>simp only[Sem.bind,ih]
    |freeze a n k ih=>simp only[Sem.bind,ih]
    |frozen a k ih=>simp only[Sem.bind,ih]
    |getObj r k ih=>simp only[Sem.bind,ih]
    |setObj r o k ih=>simp only[Sem.bind,ih]
    |choose q k ih=>simp only[Sem.bind,ih]
    |sys c k ih=>simp only[Sem.bind,ih]
    |program k ih=>simp only[Sem.bind,ih]
    |mark m k ih=>simp only[Sem.bind,ih]
    |halt h=>rfl
   rw[asc];congr 1
   funext a
   rw[asc];rfl
  rfl
 rw[e];cases hb:bs.all id<;>rfl
def cH{P:Program}{t:TypeId}{d:TypeDesc}(h:P.underlying t=some d):aG P (underlying t)=some d:=by
 show aG P (match P.underlying t with|some d=>pure d|none=>stuck "no such type")=_
 rw[h];rfl
inductive FK where
 |s
 |i
 |b
def mj(P:Program):Nat->List Field->Option (List FK)
 |_,[]=>some []
 |i,f::fs=>
  bif f.name == "_" || !(f.offset==i)then none else
  match P.underlying f.type with
  |some .string=>(mj P (i+1) fs).map (.s::·)
  |some (.int _)=>(mj P (i+1) fs).map (.i::·)
  |some .bool=>(mj P (i+1) fs).map (.b::·)
  |_=>none
def eqK(P:Program)(t:TypeId):Option (List FK):=
 match P.underlying t with
 |some (.struct fs)=>bif P.stoodInHeld t||P.eqGuardType P.depth t then none else mj P 0 fs.toList
 |_=>none
def eY:List FK->List AC->List AC->Option Bool
 |[],[],[]=>some true
 |.s::ks,.o (.str a)::l,.o (.str b)::l'=>(eY ks l l').map λr=>a==b&&r
 |.i::ks,.i k n::l,.i k' m::l'=>if k=k' then(eY ks l l').map λr=>n==m&&r else none
 |.b::ks,.b x::l,.b y::l'=>(eY ks l l').map λr=>x==y&&r
 |_,_,_=>none
def wA:eY [] [] []=some true:=rfl
def EH{ks:List FK}{a b:List UInt8}{l l':List AC}:eY (.s::ks) (.o (.str a)::l) (.o (.str b)::l')=(eY ks l l').map λr=>a==b&&r:=rfl
def EG{ks:List FK}{k:IntKind}{a b:Int}{l l':List AC}:eY (.i::ks) (.i k a::l) (.i k b::l')=(eY ks l l').map λr=>a==b&&r:=by show(if k=k then _ else _)=_;rw[ad rfl]
def EF{ks:List FK}{a b:Bool}{l l':List AC}:eY (.b::ks) (.b a::l) (.b b::l')=(eY ks l l').map λr=>a==b&&r:=rfl
def Jx{P:Program}{t:TypeId}{d:TypeDesc}(h:P.underlying t=some d)(hd:∀fs,d≠.struct fs)(hd2:∀n e,d≠.array n e)(cs:Array Value)(off:Nat)(v:Value)(hv:cs[off]?=some v):aG P (part t cs off)=some v:=by
 unfold part;rw[bM];have:aG P (isAgg t)=some false:=by unfold isAgg;rw[bM,cH h];cases d<;>first|rfl|exact absurd rfl (hd _)|exact absurd rfl (hd2 _ _)
 rw[this];simp only[Option.bind_some,hv];rfl
def Lg(a b:List UInt8):((⟨a.toArray⟩:ByteArray)==⟨b.toArray⟩)=(a==b):=by show(a.toArray==b.toArray)=_;simp
def Hm{P:Program}{n:Nat}:∀(fs:List Field)(i:Nat)(ks:List FK)(l l':List AC)(r:Bool)(us us' vs vs':List Value),mj P i fs=some ks->eY ks l l'=some r->bH l=some vs->bH l'=some vs'->us.length=i->us'.length=i ->
  (∀f∈fs,f.name ≠ "_")/\∃bs:List Bool,fs.map (λf=>aG P ((part f.type (us++vs).toArray f.offset).bind λa=>(part f.type (us'++vs').toArray f.offset).bind λb=>Op.equalIn (n+1) f.type a b))=bs.map some/\bs.all id=r
 |[],i,ks,l,l',r,us,us',vs,vs',h,he,hv,q5,_,_=>by
  cases h
  cases l<;>cases l'<;>first|(cases he;done)|(cases he;exact⟨λf hf=>(by cases hf),[],rfl,rfl⟩)
 |f::fs,i,ks,l,l',r,us,us',vs,vs',h,he,hv,q5,hu,hu'=>by
  unfold mj at h;cases hc:(f.name == "_" || !(f.offset==i))with
  |true=>rw[hc]at h;cases h
  |false=>
   rw[hc]at h;rw[iz]at hc;have hname:f.name ≠ "_" := λe=>by rw[e]at hc;exact absurd hc.1 aE
   have hoff:f.offset=i:=by simpa using hc.2
   simp only[cond_false]at h;have step:∀(d:TypeDesc)(v v':Value)(ws ws':List Value)(ks':List FK)(m m':List AC)(b r':Bool),P.underlying f.type=some d->(∀fs,d≠.struct fs)->(∀n e,d≠.array n e)->aG P (Op.equalIn (n+1) f.type v v')=some b->vs=v::ws->vs'=v'::ws' ->
     mj P (i+1) fs=some ks'->eY ks' m m'=some r'->bH m=some ws->bH m'=some ws'->(b&&r')=r ->
     (∀f'∈f::fs,f'.name ≠ "_")/\∃bs:List Bool,(f::fs).map (λf=>aG P ((part f.type (us++vs).toArray f.offset).bind λa=>(part f.type (us'++vs').toArray f.offset).bind λb=>Op.equalIn (n+1) f.type a b))=bs.map some/\bs.all id=r:=by
    intro d v v' ws ws' ks' m m' b r' hd h1 h2 hb e1 e2 hk hm hw Q2 hr;subst e1 e2;obtain⟨ih1,bs,ih2,ih3⟩:=Hm (P:=P) (n:=n) fs (i+1) ks' m m' r' (us++[v]) (us'++[v']) ws ws' hk hm hw Q2 (by simp[hu]) (by simp[hu']);refine⟨λf' hf'=>?_,b::bs,?_,?_⟩
    ·rcases List.mem_cons.1 hf' with rfl|hf'
     ·exact hname
     exact ih1 f' hf'
    ·rw[List.map_cons,List.map_cons,bz,Jx hd h1 h2 _ _ v (by rw[hoff];simp[<-hu])];simp only[Option.bind_some];rw[bz,Jx hd h1 h2 _ _ v' (by rw[hoff];simp[<-hu'])];simp only[Option.bind_some];rw[hb];have:us++[v]++ws=us++v::ws:=by simp
     rw[this]at ih2;have:us'++[v']++ws'=us'++v'::ws':=by simp
     rw[this]at ih2;rw[ih2]
    rw[List.all_cons,ih3];exact hr
   have cons1:∀{c:AC}{m:List AC}{v:Value},c.val?=some v->bH (c::m)=some vs->∃ws,vs=v::ws/\bH m=some ws:=by
    intro c m v h1 h2;unfold bH at h2;rw[h1]at h2;cases hm:bH m with
    |none=>rw[hm]at h2;cases h2
    |some ws=>rw[hm]at h2;cases h2;exact⟨ws,rfl,rfl⟩
   have cons2:∀{c:AC}{m:List AC}{v:Value},c.val?=some v->bH (c::m)=some vs'->∃ws,vs'=v::ws/\bH m=some ws:=by
    intro c m v h1 h2;unfold bH at h2;rw[h1]at h2;cases hm:bH m with
    |none=>rw[hm]at h2;cases h2
    |some ws=>rw[hm]at h2;cases h2;exact⟨ws,rfl,rfl⟩
   cases hd:P.underlying f.type with
   |none=>rw[hd]at h;cases h
   |some d=>
    rw[hd]at h;cases hk:mj P (i+1) fs with
    |none=>rw[hk]at h;cases d<;>cases h
    |some ks'=>
     rw[hk]at h;cases d with
     |string=>
      have h2:FK.s::ks'=ks:=dX h;subst h2;unfold eY at he;split at he<;>first|(cases he;done)|skip
      ·rename_i e;cases e
      ·rename_i e
       cases e
       rename_i a m b m'
       obtain⟨ws,e1,hw⟩:=cons1 (v:=.string ⟨a.toArray⟩) rfl hv;obtain⟨ws',e2,Q2⟩:=cons2 (v:=.string ⟨b.toArray⟩) rfl q5;cases hr:eY ks' m m' with
       |none=>rw[hr]at he;cases he
       |some r'=>
        rw[hr]at he;cases he
        exact step .string _ _ ws ws' ks' m m' (a==b) r' hd (λ_ h=>by cases h) (λ_ _ h=>by cases h) (by rw[PQ (cH hd),Lg]) e1 e2 hk hr hw Q2 rfl
      ·rename_i e;cases e
      rename_i e;cases e
     |int kk=>
      have h2:FK.i::ks'=ks:=dX h;subst h2;unfold eY at he;split at he<;>first|(cases he;done)|skip
      ·rename_i e;cases e
      ·rename_i e;cases e
      ·rename_i e
       cases e
       rename_i k a m k' b m'
       split at he
       ·rename_i ek
        subst ek;obtain⟨ws,e1,hw⟩:=cons1 (v:=.int k a) rfl hv;obtain⟨ws',e2,Q2⟩:=cons2 (v:=.int k b) rfl q5;cases hr:eY ks' m m' with
        |none=>rw[hr]at he;cases he
        |some r'=>
         rw[hr]at he;cases he
         exact step (.int kk) _ _ ws ws' ks' m m' (a==b) r' hd (λ_ h=>by cases h) (λ_ _ h=>by cases h) (eq_int (cH hd) k a b) e1 e2 hk hr hw Q2 rfl
       cases he
      rename_i e;cases e
     |bool=>
      have h2:FK.b::ks'=ks:=dX h;subst h2;unfold eY at he;split at he<;>first|(cases he;done)|skip
      ·rename_i e;cases e
      ·rename_i e;cases e
      ·rename_i e;cases e
      rename_i e
      cases e
      rename_i a m b m'
      obtain⟨ws,e1,hw⟩:=cons1 (v:=.bool a) rfl hv;obtain⟨ws',e2,Q2⟩:=cons2 (v:=.bool b) rfl q5;cases hr:eY ks' m m' with
      |none=>rw[hr]at he;cases he
      |some r'=>
       rw[hr]at he;cases he
       exact step .bool _ _ ws ws' ks' m m' (a==b) r' hd (λ_ h=>by cases h) (λ_ _ h=>by cases h) (NH (cH hd) a b) e1 e2 hk hr hw Q2 rfl
     |_=>cases h
def cu(P:Program)(tm:PT AV)(h:Hp)(o:Oper):aj:=aA P tm h o
def VX(ks:List FK)(f:Bool->Bool)(H:Hp)(alt:aj)(x y:AV):aj:=
 match x,y with
 |.agg l,.agg l'=>match eY ks l l' with|some b=>.val (.one (.b (f b))) H|none=>alt
 |_,_=>alt
def aaA(f:Bool->Bool)(H:Hp)(alt:aj)(o:Option Bool):aj:=match o with|some b=>.val (.one (.b (f b))) H|none=>alt
def Ck{f:Bool->Bool}{H:Hp}{alt:aj}{b:Bool}:aaA f H alt (some b)=.val (.one (.b (f b))) H:=rfl
def Hl{ks:List FK}{f:Bool->Bool}{H:Hp}{alt:aj}{l l':List AC}:VX ks f H alt (.agg l) (.agg l')=aaA f H alt (eY ks l l'):=rfl
def ya{P:Program}{op:BinOp}{t:TypeId}{x y:Operand}{a b:Array Value}(hg:P.eqGuardType P.depth t=false):aG P (eqGuard op t x y (.agg a) (.agg b))=some ():=by
 unfold eqGuard;cases op<;>first
  |rfl
  |(show aG P (Sem.bind _ _)=_
    rw[bz];show aG P (if(!P.eqGuardType P.depth t)=true then _ else _)=_;rw[hg];rfl)
def VY{ks:List FK}:∀{l l':List AC}{r:Bool},eY ks l l'=some r->(∃vs,bH l=some vs)/\(∃vs,bH l'=some vs)/\(bH l).isSome=true:=by
 induction ks with
 |nil=>intro l l' r h;cases l<;>cases l'<;>first|(cases h;done)|exact⟨⟨[],rfl⟩,⟨[],rfl⟩,rfl⟩
 |cons k ks ih=>
  intro l l' r h;unfold eY at h;split at h<;>first|(cases h;done)|skip
  ·rename_i e;cases e
  ·rename_i e;cases e
   rename_i a m b m'
   cases hr:eY ks m m' with
   |none=>rw[hr]at h;cases h
   |some r'=>obtain⟨⟨vs,h1⟩,⟨vs',h2⟩,_⟩:=ih hr;exact⟨⟨.string ⟨a.toArray⟩::vs,by simp only[bH,AC.val?,h1]⟩,⟨.string ⟨b.toArray⟩::vs',by simp only[bH,AC.val?,h2]⟩,by simp only[bH,AC.val?,h1];rfl⟩
  ·rename_i e;cases e
   rename_i k a m k' b m'
   split at h
   ·cases hr:eY ks m m' with
    |none=>rw[hr]at h;cases h
    |some r'=>obtain⟨⟨vs,h1⟩,⟨vs',h2⟩,_⟩:=ih hr;exact⟨⟨.int k a::vs,by simp only[bH,AC.val?,h1]⟩,⟨.int k' b::vs',by simp only[bH,AC.val?,h2]⟩,by simp only[bH,AC.val?,h1];rfl⟩
   cases h
  rename_i e;cases e
  rename_i a m b m'
  cases hr:eY ks m m' with
  |none=>rw[hr]at h;cases h
  |some r'=>obtain⟨⟨vs,h1⟩,⟨vs',h2⟩,_⟩:=ih hr;exact⟨⟨.bool a::vs,by simp only[bH,AC.val?,h1]⟩,⟨.bool b::vs',by simp only[bH,AC.val?,h2]⟩,by simp only[bH,AC.val?,h1];rfl⟩
def PU{P:Program}{t:TypeId}{ks:List FK}(h:eqK P t=some ks){l l':List AC}{vs vs':List Value}{r:Bool}(hr:eY ks l l'=some r)(hv:bH l=some vs)(q5:bH l'=some vs'):
  aG P (Op.equal t (.agg vs.toArray) (.agg vs'.toArray))=some r/\P.eqGuardType P.depth t=false:=by
 unfold eqK at h;cases hu:P.underlying t with
 |none=>rw[hu]at h;cases h
 |some d=>
  rw[hu]at h;cases d with
  |struct fs=>
   simp only at h
   cases hb:(P.stoodInHeld t||P.eqGuardType P.depth t)with
   |true=>rw[hb]at h;cases h
   |false=>rw[hb]at h;rw[iz]at hb;obtain⟨h1,bs,h2,h3⟩:=Hm (P:=P) (n:=9998) fs.toList 0 ks l l' r [] [] vs vs' h hr hv q5 rfl rfl;refine⟨?_,hb.2⟩;rw[<-h3];exact PR (n:=9999) (cH hu) hb.1 h1 _ _ bs h2
  |_=>cases h
def QP{P:Program}{tm:PT AV}{H:Hp}{d:Option Tmp}{t c:TypeId}{x y:Operand}{ty:TypeId}{pos:String}{af:Array Edge}{g:Option (Nat×Bool)}{ks:List FK}(h:eqK P t=some ks)(op:BinOp)(f:Bool->Bool)
  (hop:∀a b:Array Value,binOp op t (.agg a) (.agg b)=(do pure (.bool (f (<-Op.equal t (.agg a) (.agg b)))))):aA P tm H ⟨d,.binOp op t x y c,ty,pos,af,g⟩=VX ks f H (cu P tm H ⟨d,.binOp op t x y c,ty,pos,af,g⟩) (ev tm x) (ev tm y):=by
 unfold VX;split
 ·rename_i l l' hx hy
  split
  ·rename_i r hr
   obtain⟨⟨vs,h1⟩,⟨vs',h2⟩,_⟩:=VY hr;obtain⟨h3,h4⟩:=PU h hr h1 h2;have vx:(ev tm x).val?=some (.agg vs.toArray):=by rw[hx];simp only[AV.val?,h1]
   have vy:(ev tm y).val?=some (.agg vs'.toArray):=by rw[hy];simp only[AV.val?,h2]
   have dx:bQ (ev tm x)=.agg vs.toArray:=by unfold bQ;rw[vx]
   have dy:bQ (ev tm y)=.agg vs'.toArray:=by unfold bQ;rw[vy]
   unfold aA;have e1:((⟨d,.binOp op t x y c,ty,pos,af,g⟩:Oper).op.operands.toList.all λx=>(ev tm x).val?.isSome)=true:=by show([x,y].all λx=>(ev tm x).val?.isSome)=true;simp only[List.all_cons,List.all_nil,vx,vy];rfl
   rw[e1];have e2:aG P (execOp (λx=>bQ (ev tm x)) ⟨d,.binOp op t x y c,ty,pos,af,g⟩)=some (.value (.bool (f r))):=by show aG P (Sem.bind (Sem.bind (eqGuard op t x y (bQ (ev tm x)) (bQ (ev tm y))) λ_=>binOp op t (bQ (ev tm x)) (bQ (ev tm y))) λv=>Sem.pure (Next.value v))=_;rw[dx,dy,bz,bz,ya h4,hop];simp only[Option.bind_some];rw[bM,h3];rfl
   rw[e2];rfl
  rfl
 rfl
def QQ{P:Program}{tm:PT AV}{H:Hp}{d:Option Tmp}{t c:TypeId}{x y:Operand}{ty:TypeId}{pos:String}{af:Array Edge}{g:Option (Nat×Bool)}{ks:List FK}(h:eqK P t=some ks):
  aA P tm H ⟨d,.binOp .eql t x y c,ty,pos,af,g⟩=VX ks id H (cu P tm H ⟨d,.binOp .eql t x y c,ty,pos,af,g⟩) (ev tm x) (ev tm y):=QP h .eql id λ_ _=>rfl
def Nj{H:Hp}{kd:Nat}{op:BinOp}{f:BF}{l:List AC}{y:AV}{alt:aj}:cr H kd op f (.agg l) y alt=alt:=rfl
def Yx{H:Hp}{kd:Nat}{op:BinOp}{f:BF}{x:Bool}{y:AV}{alt:aj}:cr H kd op f (.one (.b x)) y alt=alt:=rfl
def Nl(f:Bool->Bool->Bool)(H:Hp)(alt:aj)(x y:AV):aj:=
 match x,y with
 |.one (.b a),.one (.b b)=>.val (.one (.b (f a b))) H
 |_,_=>alt
def Nn{f:Bool->Bool->Bool}{H:Hp}{alt:aj}{a b:Bool}:Nl f H alt (.one (.b a)) (.one (.b b))=.val (.one (.b (f a b))) H:=rfl
def LR{P:Program}{tm:PT AV}{H:Hp}{d:Option Tmp}{t c:TypeId}{x y:Operand}{ty:TypeId}{pos:String}{af:Array Edge}{g:Option (Nat×Bool)}(h:P.underlying t=some .bool)(op:BinOp)(f:Bool->Bool->Bool)
  (hop:∀a b:Bool,aG P (binOp op t (.bool a) (.bool b))=some (.bool (f a b))) (hg:∀a b,eqGuard op t x y (.bool a) (.bool b)=pure ()):aA P tm H ⟨d,.binOp op t x y c,ty,pos,af,g⟩=Nl f H (cu P tm H ⟨d,.binOp op t x y c,ty,pos,af,g⟩) (ev tm x) (ev tm y):=by
 unfold Nl;split
 ·rename_i a b hx hy
  have vx:(ev tm x).val?=some (.bool a):=by rw[hx];rfl
  have vy:(ev tm y).val?=some (.bool b):=by rw[hy];rfl
  have dx:bQ (ev tm x)=.bool a:=by unfold bQ;rw[vx]
  have dy:bQ (ev tm y)=.bool b:=by unfold bQ;rw[vy]
  unfold aA;have e1:((⟨d,.binOp op t x y c,ty,pos,af,g⟩:Oper).op.operands.toList.all λx=>(ev tm x).val?.isSome)=true:=by show([x,y].all λx=>(ev tm x).val?.isSome)=true;simp only[List.all_cons,List.all_nil,vx,vy];rfl
  rw[e1];have e2:aG P (execOp (λx=>bQ (ev tm x)) ⟨d,.binOp op t x y c,ty,pos,af,g⟩)=some (.value (.bool (f a b))):=by show aG P (Sem.bind (Sem.bind (eqGuard op t x y (bQ (ev tm x)) (bQ (ev tm y))) λ_=>binOp op t (bQ (ev tm x)) (bQ (ev tm y))) λv=>Sem.pure (Next.value v))=_;rw[dx,dy,bz,bz,hg];show(((aG P (binOp op t (.bool a) (.bool b)))).bind _)=_;rw[hop];rfl
  rw[e2];rfl
 rfl
def LQ{P:Program}{tm:PT AV}{H:Hp}{d:Option Tmp}{t c:TypeId}{x y:Operand}{ty:TypeId}{pos:String}{af:Array Edge}{g:Option (Nat×Bool)}(h:P.underlying t=some .bool):
  aA P tm H ⟨d,.binOp .neq t x y c,ty,pos,af,g⟩=Nl (λa b=>!(a==b)) H (cu P tm H ⟨d,.binOp .neq t x y c,ty,pos,af,g⟩) (ev tm x) (ev tm y):=
 LR h .neq _ (λa b=>by show aG P (Sem.bind (Op.equalIn 10000 t (.bool a) (.bool b)) λr=>Sem.pure (Value.bool (!r)))=_;rw[bz,NH (n:=9999) (cH h)];rfl) λ_ _=>rfl
structure lY where
 cells:List AC
 p:Place
def KT:Nat->List (Option lY)->PT aX
 |_,[]=>.leaf
 |n,none::l=>KT (n+1) l
 |n,some x::l=>(KT (n+1) l).set n (.ro x.cells)
def lZ(l:List (Option lY)):Pl:=λi g=>if g=0 then((l[i]?).join).map lY.p else none
def AF(i:Nat):∀(l:List (Option lY))(n:Nat),(KT n l).get i=if n<=i then((l[i-n]?).join).map λx=>.ro x.cells else none
 |[],n=>by show(PT.leaf:PT aX).get i=_;split<;>simp[PT.get]
 |none::l,n=>by
  show(KT (n+1) l).get i=_;rw[AF i l (n+1)];by_cases h:n+1<=i
  ·have e:i-n=(i-(n+1))+1:=aa;rw[ad h,ad aa,e,List.getElem?_cons_succ]
  rw[ab h];by_cases h2:n<=i
  ·have e:i-n=0:=aa;rw[ad h2,e];rfl
  rw[ab h2]
 |some x::l,n=>by
  show((KT (n+1) l).set n (.ro x.cells)).get i=_;rw[PT.eQ,AF i l (n+1)];by_cases h0:i=n
  ·subst h0;rw[ad rfl,ad (ai _),ga];rfl
  rw[ab h0];by_cases h:n+1<=i
  ·have e:i-n=(i-(n+1))+1:=aa;rw[ad h,ad aa,e,List.getElem?_cons_succ]
  rw[ab h,ab aa]
def pP(l:List (Option lY)):Hp:=⟨KT 0 l,l.length,[]⟩
def nN(l:List (Option lY))(i:Nat):(pP l).get i=((l[i]?).join).map λx=>.ro x.cells:=by show(KT 0 l).get i=_;rw[AF i l 0,ad (Nat.zero_le _),Nat.sub_zero]
def EJ{l:List (Option lY)}{id:Nat}{o:aX}(h:(pP l).get id=some o):o.nP=true:=by
 rw[nN]at h;cases hl:(l[id]?).join with
 |none=>rw[hl]at h;cases h
 |some x=>rw[hl]at h;cases h;rfl
def UY{l:List (Option lY)}{w:World}(h:∀(i:Nat) (x:lY),(l[i]?).join=some x->tq (lZ l) w x.cells x.p)(m:Nat):Rel m (lZ l) (pP l) w where
 obj:=λid o ho=>by
  rw[nN]at ho;cases hl:(l[id]?).join with
  |none=>rw[hl]at ho;cases ho
  |some x=>rw[hl]at ho;cases ho;exact⟨x.p,by show(if(0:Nat)=0 then _ else _)=_;rw[ad rfl,hl];rfl,h id x hl⟩
 sep:=λid id' o o' g g' p p' h1 h2 _ _ _ _ _=>.inr ⟨EJ h1,EJ h2⟩
 wf:=λid hid=>by have Q7:l.length<=id:=hid;rw[nN,iw Q7];rfl
 free:=λid g hid _=>by
  have Q7:l.length<=id:=hid;unfold lZ;split
  ·rw[iw Q7];rfl
  rfl
def HL{E:Env}(hE:uh E){f:FuncId}{args:List AV}{vs:List Value}{w:World}{l:List (Option lY)}(h:∀(i:Nat) (x:lY),(l[i]?).join=some x->tq (lZ l) w x.cells x.p)(ha:ARs (lZ l) args vs)
  (hc:C1 E f args (pP l) λv _=>v=.one (.b true)):Calls E.P f vs.toArray w λe w'=>e=.returned (.bool true)/\Grown w w':=by
 obtain⟨n,v,H',h1,rfl⟩:=hc;refine(callsIn_wide (n:=0)).1 (((uP hE (HT hE) n).call (m:=H'.nx) (ai _) (UY h _) ha h1 λx hx=>?_).mono λe w' he=>?_)
 ·rw[List.mem_singleton.1 hx];exact ai _
 obtain⟨u,rfl,x,hx,β',har,_,B1⟩:=he;rw[List.mem_singleton.1 hx]at har B1;have hu:u=.bool true:=har;subst hu;refine⟨rfl,B1.os,B1.tape,B1.output,B1.size,λb hb=>B1.frame b hb λid o g p ho hg _=>?_⟩;have:=EJ ho;rw[hg.2]at this;cases this
def dz(H:Hp)(v:AC)(e:TypeId)(sz n:Nat)(cells:List AC)(r:Option Nat):Prop:=
 (v=.o .nilS/\n=0/\cells=[]/\r=none)\/∃id lo gen,r=some id/\v=.o (.sl id gen 0 n sz)/\H.get id=some (.arr cells e lo gen)/\lo<=gen/\cells.length=n*sz/\id<H.nx
def dz.fr{H H':Hp}{v:AC}{e:TypeId}{sz n:Nat}{cells:List AC}{r:Option Nat}{X:Nat->Prop}(h:dz H v e sz n cells r)(hf:Fr X H H')(hx:∀i,r=some i->¬X i):dz H' v e sz n cells r:=by
 rcases h with h|⟨id,lo,gen,h1,h2,h3,h4,h5,h6⟩
 ·exact .inl h
 exact .inr ⟨id,lo,gen,h1,h2,(hf.get id h6 (hx id h1)).trans h3,h4,h5,ay h6 hf.nx⟩
def dz.lt{H:Hp}{v:AC}{e:TypeId}{sz n:Nat}{cells:List AC}{r:Option Nat}(h:dz H v e sz n cells r):ltV (.one v) H.nx:=by
 rcases h with⟨rfl,_⟩|⟨id,lo,gen,_,rfl,_,_,_,h6⟩
 ·rw[yC];trivial
 rw[FI];exact h6
def dz.slc{H:Hp}{v:AC}{e:TypeId}{sz n:Nat}{cells:List AC}{r:Option Nat}(h:dz H v e sz n cells r):SlC H v sz n cells:=by
 rcases h with⟨rfl,rfl,rfl,_⟩|⟨id,lo,gen,_,rfl,h3,h4,h5,h6⟩
 ·exact⟨by simp,.inl ⟨rfl,rfl⟩⟩
 refine⟨h5,.inr ⟨id,gen,0,rfl,h6,cells,by rw[h3];exact de h4 (ai _),aa,?_⟩⟩;rw[List.drop_zero,iX aa]
def xf{H:Hp}{id g off len sz:Nat}{cells:List AC}(h:rowOf (H.get id) g=some cells)(hl:off+len*sz<=cells.length):mB H sz (.one (.o (.sl id g off len sz)))=some (len,(cells.drop off).take (len*sz)):=by
 have hr:gN H id g off (Nat.mul len sz) (Nat.mul len sz)=some ((cells.drop off).take (len*sz)):=by unfold gN;rw[OI,h];simp only[Option.bind_some];rw[ad ⟨ai _,hl⟩];rfl
 show(match Nat.beq sz sz,gN H id g off (Nat.mul len sz) (Nat.mul len sz)with|true,some c=>some (len,c)|_,_=>none)=_;rw[cN,hr]
def zE{P:Program}{H:Hp}{t e:TypeId}{sz by_ n k:Nat}{z:Value}{v:AC}{x:AV}{cells c:List AC}{r:Option Nat}(he:bV P t=some (e,sz))(hb:dA P e=some by_)(hz:ba P e=some z)(S2:(ofValue z).cells.length=sz)(M1:sz≠0)
  (ho:dz H v e sz n cells r) (hs:mB H sz x=some (k,c)) (hk:k≠0) (hc:c.length=k*sz) (h1:n+k<=140737488355328) (h2:(n+k)*by_<=140737488355328):
  ∃v' H' r',bN P H t (.one v) x=.val (.one v') H'/\dz H' v' e sz (n+k) (cells++c) (some r')/\Fr (λi=>r=some i) H H'/\(r=some r'\/r=none/\r'=H.nx):=by
 have e1:Nat.beq sz 0=false:=by
  cases h:Nat.beq sz 0 with
  |false=>rfl
  |true=>exact absurd (aN h) M1
 have e2:Nat.beq k 0=false:=by
  cases h:Nat.beq k 0 with
  |false=>rfl
  |true=>exact absurd (aN h) hk
 have e3:both (!Nat.beq sz 0) (Nat.beq (bU (ofValue z).cells) sz)=true:=by rw[e1,bP,S2,cN];rfl
 have step:bN P H t (.one v) x=eP H e sz by_ k c (.one v):=by unfold bN;simp only[he,hb,hz,nd,e3,aK,hs]
 rcases ho with⟨rfl,rfl,rfl,rfl⟩|⟨id,lo,gen,rfl,rfl,h3,h4,h5,h6⟩
 ·refine⟨.o (.sl H.nx 0 0 k sz),H.new (.arr c e 0 0),H.nx,?_,.inr ⟨H.nx,0,0,rfl,by rw[Nat.zero_add],by rw[aJ rfl,gQ],ai _,by rw[gQ,Nat.zero_add,hc],aZ _⟩,(Fr.refl _).new _,.inr ⟨rfl,rfl⟩⟩;rw[step];show Eng.ifE (Nat.beq k 0) _ (aK (both (Nat.ble k 140737488355328) (Nat.ble (Nat.mul k by_) 140737488355328)) _ _)=_;rw[Nat.zero_add]at h1 h2;have f2:Nat.ble (Nat.mul k by_) 140737488355328=true:=bG h2;rw[e2,bG h1,f2];rfl
 refine⟨.o (.sl id (gen+1) 0 (n+k) sz),H.mod id (.arr (cells++c) e lo (gen+1)),id,?_,.inr ⟨id,lo,gen+1,rfl,rfl,ao rfl,tZ h4,by rw[bA,h5,hc,jZ],h6⟩,(Fr.refl _).mod _ (.inr rfl),.inl rfl⟩;rw[step];show pQ (H.get id) _ _=_;rw[h3];show aK (both (Nat.beq sz sz) (both (Nat.beq e e) (both (Nat.ble lo gen) (both (Nat.ble gen gen) (both (Nat.ble (Nat.add 0 (Nat.mul n sz)) (bU cells)) (both (Nat.ble (Nat.add n k) 140737488355328) (Nat.ble (Nat.mul (Nat.add n k) by_) 140737488355328))))))) _
  (Eng.ifE (Nat.beq k 0) _ (Eng.ifE (both (Nat.beq gen gen) (both (Nat.beq 0 0) (Nat.beq (Nat.mul n sz) (bU cells)))) _ _))=_
 have g5:Nat.ble (Nat.add 0 (Nat.mul n sz)) (bU cells)=true:=by rw[bP,h5];exact bG (by show 0+n*sz<=n*sz;omega)
 have g6:Nat.ble (Nat.add n k) 140737488355328=true:=bG h1;have g7:Nat.ble (Nat.mul (Nat.add n k) by_) 140737488355328=true:=bG h2;have g8:Nat.beq (Nat.mul n sz) (bU cells)=true:=by rw[bP,h5];exact cN (n*sz)
 rw[cN,cN,cN,bG h4,bG (ai gen),g5,g6,g7,g8,e2,jt];rfl
end Go.Eng
end

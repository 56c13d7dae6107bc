/- A part of the proof. -/
import Derived.Test.YtgepceljhelekaaGreatPAAc
import Derived.IntWalk
set_option maxRecDepth 100000
set_option maxHeartbeats 64000000
set_option linter.all false
noncomputable section
namespace Go.Eng
open Go
def RLe{α:Type}(r r':R α):Prop:=∀o,r=.ok o->r'=.ok o
section
variable{α γ:Type}
def RLe.refl(r:R α):RLe r r:=λ_ h=>h
def RLe.bad(s:String)(r:R α):RLe (.bad s) r:=λ_ h=>by cases h
def RLe.dO{f f':α->R γ}:∀(l:List α),(∀x∈l,RLe (f x) (f' x))->RLe (Eng.dO f l) (Eng.dO f' l)
 |[],_=>RLe.refl _
 |[x],h=>h x (List.mem_singleton.2 rfl)
 |x::y::l,h=>by
  have h1:=h x (aT ..);have h2:=RLe.dO (y::l) λz hz=>h z (aR _ hz);intro o ho;have D4:AB (f x) (Eng.dO f (y::l))=.ok o:=ho;show AB (f' x) (Eng.dO f' (y::l))=.ok o;cases ha:f x with
  |bad s=>rw[ha]at D4;cases D4
  |ok oa=>
   cases hb:Eng.dO f (y::l)with
   |bad s=>rw[ha,hb]at D4;cases D4
   |ok ob=>rw[ha,hb]at D4;rw[h1 oa ha,h2 ob hb];exact D4
def RLe.bind{r r':R α}{f f':α->R γ}(hr:RLe r r')(hf:∀x,RLe (f x) (f' x)):RLe (r.bind f) (r'.bind f'):=by
 cases r with
 |bad s=>exact RLe.bad _ _
 |ok l=>rw[hr l rfl];exact RLe.dO l λx _=>hf x
def RLe.ifE{b:Bool}{x x' y y':R α}(hx:RLe x x')(hy:RLe y y'):RLe (Eng.ifE b x y) (Eng.ifE b x' y'):=by cases b with|true=>exact hx|false=>exact hy
def RLe.aG{o:Option γ}{e e':R α}{f f':γ->R α}(he:RLe e e')(h:∀a,RLe (f a) (f' a)):RLe (Eng.aG o e f) (Eng.aG o e' f'):=by cases o with|none=>exact he|some a=>exact h a
end
def RLe.join{h:Hp}{r r':R (AV×Hp)}(hr:RLe r r'):RLe (yy h r) (yy h r'):=by
 cases r with
 |bad s=>exact RLe.bad _ _
 |ok l=>rw[hr l rfl];exact RLe.refl _
def RLe.oV{b:Bool}{h:Hp}{r r':R (au×ag×Hp)}(hr:RLe r r'):RLe (oV b h r) (oV b h r'):=by
 cases b with
 |false=>exact hr
 |true=>
  cases r with
  |bad s=>exact RLe.bad _ _
  |ok l=>rw[hr l rfl];exact RLe.refl _
structure SI(rec rec':Rec):Prop where
 code:∀r c a h,RLe (rec.code r c a h) (rec'.code r c a h)
 call:∀f l h,RLe (rec.call f l h) (rec'.call f l h)
def Ly{tm:PT AV}{g:Option (Option Tmp×Bool)}{y y' n n':R (ag×Hp)}(hy:RLe y y')(hn:RLe n n'):RLe (cJ tm g y n) (cJ tm g y' n'):=by
 unfold cJ;refine RLe.aG hy λp=>RLe.aG hn λt=>RLe.aG hn λv=>?_;cases v with
 |one c=>cases c with|b b=>exact RLe.ifE (RLe.ifE hy hn) (RLe.ifE hn hy)|i _ _=>exact hn|o _=>exact RLe.refl _
 |agg _=>exact hn
 |tup _=>exact hn
 |any=>exact RLe.refl _
def Gt{e:au}{n n' r r':R (au×ag×Hp)}{x x':Nat->R (au×ag×Hp)}(hn:RLe n n')(hx:∀i,RLe (x i) (x' i))(hr:RLe r r'):RLe (exE e n x r) (exE e n' x' r'):=by
 cases e with
 |normal=>exact hn
 |exit i=>exact hx i
 |ret=>exact hr
def nN{a:ag}{dst:Option Tmp}{v:AV}{h:Hp}{k k':ag->Hp->R (ag×Hp)}(hk:∀a h,RLe (k a h) (k' a h)):RLe (jA a dst v h k) (jA a dst v h k'):=
 RLe.aG (hk _ _) λ_=>RLe.ifE (hk _ _) (RLe.refl _)
section
variable{E:Env}{rec rec':Rec}(hr:SI rec rec')
include hr
theorem KM{id:Nat}{body:Code}(x:au×ag×Hp):RLe (ir rec id body x) (ir rec' id body x):=by
 unfold ir;split
 ·exact RLe.bind (hr.code _ _ _ _) λy=>RLe.refl _
 exact RLe.refl _
theorem Bf{id:Nat}{args:List AV}{h:Hp}:RLe (jD rec id args h) (jD rec' id args h):=by
 unfold jD;split
 ·exact RLe.ifE (RLe.bind (hr.code _ _ _ _) λx=>KM hr x) (RLe.refl _)
 exact RLe.refl _
theorem xp{h:Hp}{n:ah}:RLe (mF E rec h n) (mF E rec' h n):=by
 cases n with
 |val v h'=>exact RLe.refl _
 |tN l=>exact RLe.refl _
 |enter f args=>exact RLe.aG (RLe.aG (hr.call _ _ _) λ_=>RLe.refl _) λ_=>RLe.refl _
 |round id args=>exact Bf hr
 |bad s=>exact RLe.refl _
theorem Xn{a:ag}{dst:Option Tmp}{h:Hp}{k k':ag->Hp->R (ag×Hp)}{n:ah}(hk:∀a h,RLe (k a h) (k' a h)):RLe (qs E rec a dst h k n) (qs E rec' a dst h k' n):=by
 cases n with
 |val v h'=>exact nN hk
 |tN l=>exact RLe.dO l λx _=>nN hk
 |enter f args=>exact RLe.bind (RLe.aG (RLe.aG (hr.call _ _ _) λ_=>RLe.refl _) λ_=>RLe.refl _) λx=>nN hk
 |round id args=>exact RLe.bind (Bf hr) λx=>nN hk
 |bad s=>exact RLe.refl _
theorem rq:∀(l:List OF)(a:ag)(h:Hp),RLe (gm E rec l a h) (gm E rec' l a h)
 |[],_,_=>RLe.refl _
 |o::l,a,h=>Ly (Xn hr λa h=>rq l a h) (nN λa h=>rq l a h)
omit hr in
theorem Ub{kk j:Nat}{a:ag}{dst:Option Tmp}{h:Hp}{sub:PT aX}{us did:List Did}{K K':List Did->ag->Hp->R (ag×Hp)}{x x':R (AV×Hp)}(hx:RLe x x')(hK:∀d a h,RLe (K d a h) (K' d a h)):
  RLe (Bb kk j a dst h sub us did K x) (Bb kk j a dst h sub us did K' x'):=by
 cases x with
 |bad s=>exact RLe.bad _ _
 |ok l=>
  rw[hx l rfl];cases l with
  |nil=>exact RLe.refl _
  |cons y l=>
   cases l with
   |cons _ _=>exact RLe.refl _
   |nil=>exact RLe.ifE (nN λa h=>hK _ a h) (RLe.refl _)
theorem sQ:∀(l:List OF)(j:Nat)(ms:List Nat)(did:List Did)(a:ag)(h:Hp),RLe (eG E rec l j ms did a h) (eG E rec' l j ms did a h)
 |[],_,_,_,_,_=>RLe.refl _
 |o::l,j,[],did,a,h=>RLe.refl _
 |o::l,j,m::ms,did,a,h=>Ly (Ub (xp hr) λd a h=>sQ l _ ms d a h) (nN λa h=>sQ l _ ms did a h)
theorem Mj{r:Option Nat}{f:OpF}{ps:List Tmp}{as bo:Code}{a:ag}{h:Hp}:RLe (kG E rec r f ps as bo a h) (kG E rec' r f ps as bo a h):=by
 unfold kG;split
 ·exact RLe.refl _
 split
 ·exact RLe.ifE (RLe.bind (hr.call _ _ _) λx=>RLe.refl _) (RLe.refl _)
 exact RLe.refl _
theorem hY:∀(c:Code)(r:Option Nat)(a:ag)(h:Hp),RLe ((codeF E c).run rec r a h) ((codeF E c).run rec' r a h):=by
 intro c;induction c with
 |skip=>intro r a h;exact RLe.refl _
 |region id ops draw=>
  intro r a h;cases draw with
  |false=>exact RLe.bind (rq hr _ a h) λx=>RLe.refl _
  |true=>
   show RLe ((Eng.ifE (iu ops) (CF.mk λrec _ a h=>(eG E rec (uF E.P ops) 0 (gR [] 0 ops.toList) [] a h).bind iJ) (CF.mk λ_ _ _ _=>.bad "draw - slots")).run rec r a h)
    ((Eng.ifE (iu ops) (CF.mk λrec _ a h=>(eG E rec (uF E.P ops) 0 (gR [] 0 ops.toList) [] a h).bind iJ) (CF.mk λ_ _ _ _=>.bad "draw - slots")).run rec' r a h)
   cases iu ops with
   |false=>exact RLe.refl _
   |true=>exact RLe.bind (sQ hr _ _ _ _ a h) λx=>RLe.refl _
 |seq x y hx hy=>intro r a h;exact RLe.bind (hx r a h) λz=>Gt (hy r _ _) (λ_=>RLe.refl _) (RLe.refl _)
 |cond c x y hx hy=>
  intro r a h;show RLe (gj ((opF c).ev a.tm) (.bad "cond") λb=>Eng.ifE b ((codeF E x).run rec r a h) ((codeF E y).run rec r a h)) (gj ((opF c).ev a.tm) (.bad "cond") λb=>Eng.ifE b ((codeF E x).run rec' r a h) ((codeF E y).run rec' r a h))
  cases(opF c).ev a.tm with
  |one q=>
   cases q with
   |b b=>exact RLe.ifE (hx r a h) (hy r a h)
   |i _ _=>exact RLe.refl _
   |o _=>exact RLe.refl _
  |agg _=>exact RLe.refl _
  |tup _=>exact RLe.refl _
  |any=>exact RLe.refl _
 |block id x hx=>intro r a h;exact RLe.oV (RLe.bind (hx r a h) λz=>RLe.refl _)
 |loop x hx=>intro r a h;exact RLe.bind (hx r a h) λz=>Gt (hr.code _ _ _ _) (λ_=>RLe.refl _) (RLe.refl _)
 |rangeFunc f ps as bo _ _=>intro r a h;exact Mj hr
 |exit id=>intro r a h;exact RLe.refl _
 |scope x hx=>intro r a h;exact hx r a h
 |label l=>intro r a h;exact RLe.refl _
 |goto l=>intro r a h;exact RLe.refl _
 |ret=>intro r a h;exact RLe.refl _
 |refuse x=>intro r a h;exact RLe.refl _
theorem QZ{f:FuncId}{args:List AV}{h:Hp}:RLe (nX E rec f args h) (nX E rec' f args h):=by
 unfold nX Uv;split
 ·split
  ·exact RLe.ifE (RLe.join (RLe.bind (hY hr _ none _ h) λx=>RLe.refl _)) (RLe.refl _)
  exact RLe.refl _
 exact RLe.refl _
end
def xq(E:Env):∀n,SI (eval E n) (eval E (n+1))
 |0=>⟨λ_ _ _ _=>RLe.bad _ _,λ_ _ _=>RLe.bad _ _⟩
 |n+1=>⟨λr c a h=>hY (xq E n) c r a h,λf l h=>QZ (xq E n)⟩
def fw(E:Env){n:Nat}:∀{k:Nat},n<=k->SI (eval E n) (eval E k)
 |0,h=>by have:n=0:=aa;subst this;exact⟨λ_ _ _ _=>RLe.refl _,λ_ _ _=>RLe.refl _⟩
 |k+1,h=>by
  by_cases e:n=k+1
  ·subst e;exact⟨λ_ _ _ _=>RLe.refl _,λ_ _ _=>RLe.refl _⟩
  have h1:=fw E (n:=n) (k:=k) aa;have h2:=xq E k;exact⟨λr c a h o ho=>h2.code r c a h o (h1.code r c a h o ho),λf l h o ho=>h2.call f l h o (h1.call f l h o ho)⟩
def C1(E:Env)(f:FuncId)(args:List AV)(H:Hp)(Q:AV->Hp->Prop):Prop:=∃n v H',(eval E n).call f args H=.ok [(v,H')]/\Q v H'
def R1(E:Env)(r:Option Nat)(c:Code)(A:ag)(H:Hp)(Q:au->ag->Hp->Prop):Prop:=∃n e A' H',(codeF E c).run (eval E n) r A H=.ok [(e,A',H')]/\Q e A' H'
def O1(E:Env)(l:List OF)(A:ag)(H:Hp)(Q:ag->Hp->Prop):Prop:=∃n A' H',gm E (eval E n) l A H=.ok [(A',H')]/\Q A' H'
def D1(E:Env)(l:List OF)(j:Nat)(ms:List Nat)(did:List Did)(A:ag)(H:Hp)(Q:ag->Hp->Prop):Prop:=∃n A' H',eG E (eval E n) l j ms did A H=.ok [(A',H')]/\Q A' H'
def N1(E:Env)(H:Hp)(n:ah)(Q:AV->Hp->Prop):Prop:=∃k v H',mF E (eval E k) H n=.ok [(v,H')]/\Q v H'
section
variable{E:Env}
def C1.mono{f:FuncId}{args:List AV}{H:Hp}{Q Q':AV->Hp->Prop}(h:C1 E f args H Q)(hq:∀v H',Q v H'->Q' v H'):C1 E f args H Q':=
 let ⟨n,v,H',h1,h2⟩:=h;⟨n,v,H',h1,hq _ _ h2⟩
def R1.mono{r:Option Nat}{c:Code}{A:ag}{H:Hp}{Q Q':au->ag->Hp->Prop}(h:R1 E r c A H Q)(hq:∀e A' H',Q e A' H'->Q' e A' H'):R1 E r c A H Q':=
 let ⟨n,e,A',H',h1,h2⟩:=h;⟨n,e,A',H',h1,hq _ _ _ h2⟩
def O1.mono{l:List OF}{A:ag}{H:Hp}{Q Q':ag->Hp->Prop}(h:O1 E l A H Q)(hq:∀A' H',Q A' H'->Q' A' H'):O1 E l A H Q':=
 let ⟨n,A',H',h1,h2⟩:=h;⟨n,A',H',h1,hq _ _ h2⟩
def Thn(K:ag->Hp->Prop)(Q:au->ag->Hp->Prop):au->ag->Hp->Prop
 |.normal,A,H=>K A H
 |.exit i,A,H=>Q (.exit i) A H
 |.ret,A,H=>Q .ret A H
def InB(id:Nat)(Q:au->ag->Hp->Prop):au->ag->Hp->Prop
 |.normal,A,H=>Q .normal A H
 |.exit i,A,H=>if i=id then Q .normal A H else Q (.exit i) A H
 |.ret,A,H=>Q .ret A H
variable{r:Option Nat}{A:ag}{H:Hp}{Q:au->ag->Hp->Prop}
def R1.skip(h:Q .normal A H):R1 E r .skip A H Q:=⟨0,_,_,_,rfl,h⟩
def R1.exit{id:Nat}(h:Q (.exit id) A H):R1 E r (.exit id) A H Q:=⟨0,_,_,_,rfl,h⟩
def R1.ret(h:Q .ret A H):R1 E r .ret A H Q:=⟨0,_,_,_,rfl,h⟩
def R1.scope{c:Code}(h:R1 E r c A H Q):R1 E r (.scope c) A H Q:=h
def R1.seq{x y:Code}(h:R1 E r x A H (Thn (λA H=>R1 E r y A H Q) Q)):R1 E r (.seq x y) A H Q:=by
 obtain⟨n,e,A1,H1,h1,h2⟩:=h;cases e with
 |normal=>obtain⟨k,e2,A2,H2,h3,h4⟩:=h2;refine⟨max n k,e2,A2,H2,?_,h4⟩;have a1:=hY (fw E (sy n k)) x r A H _ h1;have a2:=hY (fw E (pY n k)) y r A1 H1 _ h3;show((codeF E x).run (eval E (max n k)) r A H).bind (xI (codeF E y) (eval E (max n k)) r)=_;rw[a1];exact a2
 |exit i=>refine⟨n,_,A1,H1,?_,h2⟩;show((codeF E x).run (eval E n) r A H).bind (xI (codeF E y) (eval E n) r)=_;rw[h1];rfl
 |ret=>refine⟨n,_,A1,H1,?_,h2⟩;show((codeF E x).run (eval E n) r A H).bind (xI (codeF E y) (eval E n) r)=_;rw[h1];rfl
def R1.cond{c:Operand}{x y:Code}{b:Bool}(hc:ev A.tm c=.one (.b b))(h:R1 E r (if b=true then x else y) A H Q):R1 E r (.cond c x y) A H Q:=by
 obtain⟨n,e,A1,H1,h1,h2⟩:=h;refine⟨n,e,A1,H1,?_,h2⟩;show gj (ev A.tm c) (.bad "cond") (λb=>Eng.ifE b ((codeF E x).run (eval E n) r A H) ((codeF E y).run (eval E n) r A H))=_
 rw[hc];cases b with
 |true=>exact h1
 |false=>exact h1
def Rp(b:Bool)(h:Hp)(x:au×ag×Hp):oV b h (.ok [x])=.ok [x]:=by cases b<;>rfl
def R1.block{id:Nat}{c:Code}(h:R1 E r c A H (InB id Q)):R1 E r (.block id c) A H Q:=by
 obtain⟨n,e,A1,H1,h1,h2⟩:=h;have key:∀e2,nT id (e,A1,H1)=.ok [(e2,A1,H1)]->Q e2 A1 H1->R1 E r (.block id c) A H Q:=λe2 a b=>⟨n,e2,A1,H1,by show oV (E.jn id) H (((codeF E c).run (eval E n) r A H).bind (nT id))=_;rw[h1];show oV (E.jn id) H (nT id (e,A1,H1))=_;rw[a,Rp],b⟩
 cases e with
 |normal=>exact key .normal rfl h2
 |ret=>exact key .ret rfl h2
 |exit i=>
  have s_:if i=id then Q .normal A1 H1 else Q (.exit i) A1 H1:=h2;by_cases hi:i=id
  ·rw[ad hi]at s_;refine key .normal ?_ s_;show Eng.ifE (Nat.beq i id) (R.ok [((.normal:au),A1,H1)]) (R.ok [(.exit i,A1,H1)])=_;rw[hi,cZ];rfl
  rw[ab hi]at s_;refine key (.exit i) ?_ s_;show Eng.ifE (Nat.beq i id) (R.ok [((.normal:au),A1,H1)]) (R.ok [(.exit i,A1,H1)])=_;have:Nat.beq i id=false:=by
   cases hb:Nat.beq i id with
   |false=>rfl
   |true=>exact absurd (aO hb) hi
  rw[this];rfl
def R1.round{c:Code}(h:R1 E r c A H (Thn (λA H=>R1 E r (.loop c) A H Q) Q)):R1 E r (.loop c) A H Q:=by
 obtain⟨n,e,A1,H1,h1,h2⟩:=h;cases e with
 |normal=>obtain⟨k,e2,A2,H2,h3,h4⟩:=h2;refine⟨max n k+1,e2,A2,H2,?_,h4⟩;have a1:=hY (fw E (show n<=max n k+1 by omega)) c r A H _ h1;have a2:(eval E (max n k+1)).code r (.loop c) A1 H1=.ok [(e2,A2,H2)]:=hY (fw E (pY n k)) (.loop c) r A1 H1 _ h3;show((codeF E c).run (eval E (max n k+1)) r A H).bind (BP (eval E (max n k+1)) r c)=_;rw[a1];exact a2
 |exit i=>refine⟨n,_,A1,H1,?_,h2⟩;show((codeF E c).run (eval E n) r A H).bind (BP (eval E n) r c)=_;rw[h1];rfl
 |ret=>refine⟨n,_,A1,H1,?_,h2⟩;show((codeF E c).run (eval E n) r A H).bind (BP (eval E n) r c)=_;rw[h1];rfl
def R1.loop{c:Code}(I:Nat->ag->Hp->Prop)(hI:∀k A H,I k A H->R1 E r c A H (Thn (λA' H'=>∃k',k'<k/\I k' A' H') Q)):∀(k:Nat){A:ag}{H:Hp},I k A H->R1 E r (.loop c) A H Q:=by
 intro k;induction k using Nat.strongRecOn with
 |ind k ih=>
  intro A H h;refine R1.round ((hI k A H h).mono λe A' H' hq=>?_);cases e with
  |normal=>obtain⟨k',hk,h'⟩:=hq;exact ih k' hk h'
  |exit i=>exact hq
  |ret=>exact hq
def R1.region{id:Nat}{ops:Array Oper}(h:O1 E (uF E.P ops) A H λA H=>Q .normal A H):R1 E r (.region id ops false) A H Q:=by obtain⟨n,A1,H1,h1,h2⟩:=h;refine⟨n,.normal,A1,H1,?_,h2⟩;show(gm E (eval E n) (uF E.P ops) A H).bind iJ=_;rw[h1];rfl
def R1.draw{id:Nat}{ops:Array Oper}(hs:iu ops=true)(h:D1 E (uF E.P ops) 0 (gR [] 0 ops.toList) [] A H λA H=>Q .normal A H):R1 E r (.region id ops true) A H Q:=by
 obtain⟨n,A1,H1,h1,h2⟩:=h;refine⟨n,.normal,A1,H1,?_,h2⟩;show(Eng.ifE (iu ops) (CF.mk λrec _ a h=>(eG E rec (uF E.P ops) 0 (gR [] 0 ops.toList) [] a h).bind iJ) (CF.mk λ_ _ _ _=>.bad "draw - slots")).run (eval E n) r A H=_
 rw[hs];show(eG E (eval E n) (uF E.P ops) 0 (gR [] 0 ops.toList) [] A H).bind iJ=_;rw[h1];rfl
def N1.val{H H':Hp}{v:AV}{Q:AV->Hp->Prop}(h:Q v H'):N1 E H (.val v H') Q:=⟨0,v,H',rfl,h⟩
def N1.call{H:Hp}{f:FuncId}{args:List AV}{Q:AV->Hp->Prop}(hp:E.fJ f args=none)(hq:E.eN f args H=none)(h:C1 E f args H Q):N1 E H (.enter f args) Q:=by obtain⟨n,v,H',h1,h2⟩:=h;refine⟨n,v,H',?_,h2⟩;show aG (E.fJ f args) (aG (E.eN f args H) ((eval E n).call f args H) λx=>.ok [(x.1,H.mod x.2.1 x.2.2)]) (λv=>.ok [(v,H)])=_;rw[hp,hq];exact h1
def N1.eN{H:Hp}{f:FuncId}{args:List AV}{x:AV×Nat×aX}{Q:AV->Hp->Prop}(hp:E.fJ f args=none)(hq:E.eN f args H=some x)(h:Q x.1 (H.mod x.2.1 x.2.2)):N1 E H (.enter f args) Q:=by refine⟨0,x.1,H.mod x.2.1 x.2.2,?_,h⟩;show aG (E.fJ f args) (aG (E.eN f args H) ((eval E 0).call f args H) λx=>.ok [(x.1,H.mod x.2.1 x.2.2)]) (λv=>.ok [(v,H)])=_;rw[hp,hq];rfl
def N1.fJ{H:Hp}{f:FuncId}{args:List AV}{v:AV}{Q:AV->Hp->Prop}(hp:E.fJ f args=some v)(h:Q v H):N1 E H (.enter f args) Q:=by refine⟨0,v,H,?_,h⟩;show aG (E.fJ f args) (aG (E.eN f args H) ((eval E 0).call f args H) λx=>.ok [(x.1,H.mod x.2.1 x.2.2)]) (λv=>.ok [(v,H)])=_;rw[hp];rfl
def cU(A:ag)(d:Option Tmp)(v:AV):ag:=aG d A λd=>A.put d v
def aZ(d:Option Tmp)(nt:Nat):Bool:=match d with|none=>true|some d=>Nat.blt d nt
def mh{a:ag}{d:Option Tmp}{v:AV}{h:Hp}{k:ag->Hp->R (ag×Hp)}(hd:aZ d a.nt=true):jA a d v h k=k (cU a d v) h:=by
 cases d with
 |none=>rfl
 |some d=>
  show Eng.ifE (Nat.blt d a.nt) (k (a.put d v) h) (.bad "slot")=_
  have:Nat.blt d a.nt=true:=hd;rw[this];rfl
def O1.nil{Q:ag->Hp->Prop}(h:Q A H):O1 E [] A H Q:=⟨0,A,H,rfl,h⟩
def O1.cons{g:Option (Option Tmp×Bool)}{d:Option Tmp}{f:SF}{o:Oper}{l:List OF}{Q:ag->Hp->Prop}(hg:∀y n:R (ag×Hp),cJ A.tm g y n=y)(hd:aZ d A.nt=true)
  (h:N1 E H (f.run A.tm H) λv H'=>O1 E l (cU A d v) H' Q):O1 E (⟨g,d,f,o⟩::l) A H Q:=by
 obtain⟨n,v,H1,h1,k,A2,H2,h2,h3⟩:=h;refine⟨max n k,A2,H2,?_,h3⟩;have a1:=xp (E:=E) (fw E (sy n k)) _ h1;have a2:=rq (E:=E) (fw E (pY n k)) l (cU A d v) H1 _ h2;show cJ A.tm g (qs E (eval E (max n k)) A d H (gm E (eval E (max n k)) l) (f.run A.tm H)) (jA A d aQ H (gm E (eval E (max n k)) l))=_;rw[hg];have e:qs E (eval E (max n k)) A d H (gm E (eval E (max n k)) l) (f.run A.tm H)=(mF E (eval E (max n k)) H (f.run A.tm H)).bind λx=>jA A d x.1 x.2 (gm E (eval E (max n k)) l):=by cases f.run A.tm H<;>rfl
 rw[e,a1];show jA A d v H1 (gm E (eval E (max n k)) l)=_;rw[mh hd];exact a2
def O1.QQ{g:Option (Option Tmp×Bool)}{d:Option Tmp}{f:SF}{o:Oper}{l:List OF}{Q:ag->Hp->Prop}(hg:∀y n:R (ag×Hp),cJ A.tm g y n=n)(hd:aZ d A.nt=true)
  (h:O1 E l (cU A d aQ) H Q):O1 E (⟨g,d,f,o⟩::l) A H Q:=by
 obtain⟨k,A2,H2,h2,h3⟩:=h;refine⟨k,A2,H2,?_,h3⟩;show cJ A.tm g (qs E (eval E k) A d H (gm E (eval E k) l) (f.run A.tm H)) (jA A d aQ H (gm E (eval E k) l))=_;rw[hg,mh hd];exact h2
def C1.Zg{f:FuncId}{fn:Func}{c:Code}{args:List AV}{Q:AV->Hp->Prop}(hf:E.P.funcs[f]?=some fn)(hb:fn.body=some c)(hn:args.length<=fn.ntmps)(W3:fn.ntmps<=1048576)
  (h:R1 E none c ⟨setArgs args 0 .leaf,fn.ntmps,[]⟩ H λe A' H'=>∃v H2,aK E fn.results.toList (e,A',H')=.ok [(v,H2)]/\Q v H2):C1 E f args H Q:=by
 obtain⟨n,e,A',H',h1,v,H2,h2,h3⟩:=h;refine⟨n+1,v,H2,?_,h3⟩;show nX E (eval E n) f args H=_;unfold nX Uv;rw[hf];simp only[hb];show Eng.ifE (both (Nat.ble (vZ args) fn.ntmps) (Nat.ble fn.ntmps 1048576)) (yy H (((codeF E c).run (eval E n) none ⟨setArgs args 0 .leaf,fn.ntmps,[]⟩ H).bind (aK E fn.results.toList))) (.bad "too many arguments")=_
 have e1:Nat.ble (vZ args) fn.ntmps=true:=bU hn;have e2:Nat.ble fn.ntmps 1048576=true:=bU W3;rw[e1,e2];show yy H (((codeF E c).run (eval E n) none ⟨setArgs args 0 .leaf,fn.ntmps,[]⟩ H).bind (aK E fn.results.toList))=_;rw[h1];have e3:R.bind (R.ok [(e,A',H')]) (aK E fn.results.toList)=aK E fn.results.toList (e,A',H'):=rfl;rw[e3,h2];rfl
end
def slot(tm:PT AV)(t:Nat):AV:=aG (tm.get t) aQ λv=>v
abbrev eQ(t:PT AV)(a b:Tmp)(m n:AC)(r:Prop):Prop:=slot t a=.one m/\slot t b=.one n/\r
abbrev ky(t:PT AV)(a b c:Tmp)(m n o:AC)(r:Prop):Prop:=slot t a=.one m/\eQ t b c n o r
abbrev LC(t:PT AV)(a b c d:Tmp)(m n o p:AC)(r:Prop):Prop:=slot t a=.one m/\ky t b c d n o p r
abbrev XI(t:PT AV)(a b c d e:Tmp)(m n o p q:AC)(r:Prop):Prop:=slot t a=.one m/\LC t b c d e n o p q r
abbrev ZR(t:PT AV)(a b c d e f:Tmp)(m n o p q s:AC)(r:Prop):Prop:=slot t a=.one m/\XI t b c d e f n o p q s r
abbrev abE(t:PT AV)(a b:Tmp)(m n:AC)  : Prop:=slot t a=.one m/\slot t b=.one n
abbrev abF(t:PT AV)(a b c:Tmp)(m n o:AC)  : Prop:=slot t a=.one m/\abE t b c n o
abbrev abG(t:PT AV)(a b c d:Tmp)(m n o p:AC)  : Prop:=slot t a=.one m/\abF t b c d n o p
abbrev abH(t:PT AV)(a b c d e:Tmp)(m n o p q:AC)  : Prop:=slot t a=.one m/\abG t b c d e n o p q
abbrev abI(t:PT AV)(a b c d e f:Tmp)(m n o p q s:AC)  : Prop:=slot t a=.one m/\abH t b c d e f n o p q s
abbrev abJ(t:PT AV)(a b c d e f g:Tmp)(m n o p q s u:AC)  : Prop:=slot t a=.one m/\abI t b c d e f g n o p q s u
abbrev abK(t:PT AV)(a b c d e f g h:Tmp)(m n o p q s u v:AC)  : Prop:=slot t a=.one m/\abJ t b c d e f g h n o p q s u v
abbrev abL(t:PT AV)(a b c d e f g h i:Tmp)(m n o p q s u v w:AC)  : Prop:=slot t a=.one m/\abK t b c d e f g h i n o p q s u v w
abbrev eO(A:ag)(a:Tmp)(m:AC)(N:Nat)(D:List Nat):Prop:=slot A.tm a=.one m/\A.nt=N/\A.dfr=D
abbrev nu(A:ag)(a b:Tmp)(m n:AC)(N:Nat)(D:List Nat):Prop:=slot A.tm a=.one m/\eO A b n N D
abbrev oA(A:ag)(a b c:Tmp)(m n o:AC)(N:Nat)(D:List Nat):Prop:=slot A.tm a=.one m/\nu A b c n o N D
abbrev xe(A:ag)(a b c d:Tmp)(m n o p:AC)(N:Nat)(D:List Nat):Prop:=slot A.tm a=.one m/\oA A b c d n o p N D
abbrev abM(A:ag)(a b c d e:Tmp)(m n o p q:AC)(N:Nat)(D:List Nat):Prop:=slot A.tm a=.one m/\xe A b c d e n o p q N D
abbrev XJ(A:ag)(a b c d e f:Tmp)(m n o p q s:AC)(N:Nat)(D:List Nat):Prop:=slot A.tm a=.one m/\abM A b c d e f n o p q s N D
abbrev dR(A:ag)(x0 x1 x2 x3 x4 x5 x6:Nat)(x7:Int)(r:Prop):Prop:=slot A.tm 4=.one (.o (.ptr x0 0 0 1))/\slot A.tm 5=.one (.o (.ptr x1 0 0 1))/\slot A.tm 6=.one (.o (.ptr x2 0 0 1))/\slot A.tm 7=.one (.o (.ptr x3 0 0 1))/\slot A.tm 8=.one (.o (.ptr x4 0 0 1))/\slot A.tm 9=.one (.o (.ptr x5 0 0 1))/\slot A.tm 10=.one (.o (.ptr x6 0 0 1))/\slot A.tm 11=.one (.i .i64 x7)/\r
abbrev CG(A:ag)(x0 x1 x2 x3 x4 x5 x6 x7:Nat)(x8 x9:Int)(r:Prop):Prop:=slot A.tm 2=.one (.o (.ptr x0 0 0 1))/\slot A.tm 4=.one (.o (.ptr x1 0 0 1))/\slot A.tm 6=.one (.o (.sl x2 0 0 x3 1))/\slot A.tm 9=.one (.o (.clo 68 [(x4,0,0,1),(x5,0,0,2)]))/\slot A.tm 10=.one (.o (.clo 69 [(x6,0,0,1),(x7,0,0,2)]))/\slot A.tm 45=.one (.i .i64 x8)/\slot A.tm 46=.one (.i .i64 x9)/\r
abbrev jz(A:ag)(x0 x1:Int)(r:Prop):Prop:=slot A.tm 3=.one (.i .i64 x0)/\slot A.tm 4=.one (.i .i64 x1)/\r
abbrev dm(A:ag)(x0:Int)(r:Prop):Prop:=slot A.tm 1=.one (.i .i64 x0)/\r
abbrev nj(A:ag)(x0:Int)(x1:Nat)(r:Prop):Prop:=slot A.tm 16=.one (.i .i64 x0)/\slot A.tm 17=.one (.o (.ptr x1 0 0 2))/\r
abbrev eZ(A:ag)(x0:Nat)(r:Prop):Prop:=slot A.tm 1=.one (.o (.ptr x0 0 0 2))/\r
abbrev fb(A:ag)(x0:Nat)(r:Prop):Prop:=slot A.tm 2=.one (.o (.ptr x0 0 0 2))/\r
abbrev fu(A:ag)(x0:Int)(r:Prop):Prop:=slot A.tm 5=.one (.i .i64 x0)/\r
abbrev gU(A:ag)(x0:Int)(r:Prop):Prop:=slot A.tm 7=.one (.i .i64 x0)/\r
abbrev iB(A:ag)(x0:Int)(r:Prop):Prop:=slot A.tm 3=.one (.i .i64 x0)/\r
abbrev fM(A:ag)(x0:Nat)(r:Prop):Prop:=slot A.tm 6=.one (.o (.ptr x0 0 0 2))/\r
abbrev qh(A:ag)(x0:AC)(x1 x2:Int)(r:Prop):Prop:=slot A.tm 123=.one x0/\slot A.tm 124=.one (.i .i64 x1)/\slot A.tm 125=.one (.i .i64 x2)/\r
abbrev iA(A:ag)(x0:Nat)(r:Prop):Prop:=slot A.tm 13=.one (.o (.ptr x0 0 0 9))/\r
abbrev ox(A:ag)(x0 x1:Nat)(r:Prop):Prop:=slot A.tm 2=.one (.o (.ptr x0 0 0 1))/\slot A.tm 3=.one (.o (.ptr x1 0 0 1))/\r
abbrev qi(A:ag)(x0 x1:Int)(r:Prop):Prop:=slot A.tm 23=.one (.i .i64 x0)/\slot A.tm 24=.one (.i .i64 x1)/\r
abbrev jt(A:ag)(x0:Int)(r:Prop):Prop:=slot A.tm 11=.one (.i .i64 x0)/\r
abbrev ju(A:ag)(x0:Int)(r:Prop):Prop:=slot A.tm 2=.one (.i .i64 x0)/\r
abbrev jM(A:ag)(x0:Nat)(r:Prop):Prop:=slot A.tm 4=.one (.o (.ptr x0 0 0 1))/\r
abbrev jN(A:ag)(x0:Nat)(r:Prop):Prop:=slot A.tm 3=.one (.o (.ptr x0 0 0 2))/\r
abbrev lI(A:ag)(x0:Int)(r:Prop):Prop:=slot A.tm 10=.one (.i .i64 x0)/\r
abbrev lJ(A:ag)(x0:Nat)(r:Prop):Prop:=slot A.tm 11=.one (.o (.ptr x0 0 0 7))/\r
abbrev lK(A:ag)(x0:Int)(r:Prop):Prop:=slot A.tm 8=.one (.i .i64 x0)/\r
abbrev ng(A:ag)(x0:Int)(r:Prop):Prop:=slot A.tm 12=.one (.i .i64 x0)/\r
abbrev sG(A:ag)(x0 x1 x2 x3:Nat)(r:Prop):Prop:=slot A.tm 4=.one (.o (.sl x0 0 0 x1 1))/\slot A.tm 5=.one (.o (.sl x2 0 0 x3 1))/\r
abbrev xT(A:ag)(x0 x1 x2 x3:Nat)(x4 x5:Int):Prop:=slot A.tm 26=.one (.o (.sl x0 x1 x2 x3 2))/\slot A.tm 27=.one (.i .i64 x4)/\slot A.tm 28=.one (.i .i64 x5)/\A.nt=102/\A.dfr=[]
abbrev oy(A:ag)(x0:Int)(r:Prop):Prop:=slot A.tm 13=.one (.i .i64 x0)/\r
abbrev nh(A:ag)(x0:Nat)(r:Prop):Prop:=slot A.tm 0=.one (.o (.ptr x0 0 0 9))/\r
abbrev xU(A:ag)(x0 x1 x2 x3:Nat)(x4 x5:Int)(r:Prop):Prop:=slot A.tm 19=.one (.o (.sl x0 x1 x2 x3 2))/\slot A.tm 20=.one (.i .i64 x4)/\slot A.tm 21=.one (.i .i64 x5)/\r
abbrev oz(A:ag)(x0:Nat)(r:Prop):Prop:=slot A.tm 19=.one (.o (.ptr x0 0 0 1))/\r
abbrev CH(A:ag)(x0 x1 x2 x3 x4:Nat)(r:Prop):Prop:=slot A.tm 6=.one (.o (.ptr x0 0 0 1))/\slot A.tm 7=.one (.o (.ptr x1 0 0 1))/\slot A.tm 8=.one (.o (.ptr x2 0 0 1))/\slot A.tm 9=.one (.o (.ptr x3 0 0 1))/\slot A.tm 10=.one (.o (.ptr x4 0 0 1))/\r
def lj:=zDm @eQ.eq_1 @ky.eq_1 @LC.eq_1 @XI.eq_1 @ZR.eq_1 @abE.eq_1 @abF.eq_1 @abG.eq_1 @abH.eq_1 @abI.eq_1 @abJ.eq_1 (zDm @abK.eq_1 @abL.eq_1 @eO.eq_1 @nu.eq_1 @oA.eq_1 @xe.eq_1 @abM.eq_1 @XJ.eq_1 @dR.eq_1 @CG.eq_1 @jz.eq_1 (zDm @dm.eq_1 @nj.eq_1 @eZ.eq_1 @fb.eq_1 @fu.eq_1 @gU.eq_1 @iB.eq_1 @fM.eq_1 @qh.eq_1 @iA.eq_1 @ox.eq_1 (zDm @qi.eq_1 @jt.eq_1 @ju.eq_1 @jM.eq_1 @jN.eq_1 @lI.eq_1 @lJ.eq_1 @lK.eq_1 @ng.eq_1 @sG.eq_1 @xT.eq_1 (zDf @oy.eq_1 @nh.eq_1 @xU.eq_1 @oz.eq_1 @CH.eq_1))))
def OJ(tm:PT AV)(f:FuncId):ev tm (.func f)=.one (.o (.clo f [])):=rfl
def Up(tm:PT AV)(k:IntKind)(n:Int):ev tm (.const (.int k n))=.one (.i k n):=rfl
def OI(tm:PT AV)(b:Bool):ev tm (.const (.bool b))=.one (.b b):=rfl
def Uq(tm:PT AV)(s:ByteArray):ev tm (.const (.string s))=.one (.o (.str s.data.toList)):=rfl
def OM(tm:PT AV):ev tm (.const (.slice none 0 0))=.one (.o .nilS):=rfl
def ak(A:ag)(d t:Nat)(v:AV):slot (cU A (some d) v).tm t=if t=d then v else slot A.tm t:=by
 show aG ((A.tm.set d v).get t) aQ (λv=>v)=_;rw[PT.fE];by_cases h:t=d
 ·subst h;rw[ad rfl,ad rfl];rfl
 rw[ab h,ab h];rfl
def Fg(A:ag)(v:AV):cU A none v=A:=rfl
def bq(A:ag)(d:Option Tmp)(v:AV):(cU A d v).nt=A.nt:=by cases d<;>rfl
def aM(A:ag)(d:Option Tmp)(v:AV):(cU A d v).dfr=A.dfr:=by cases d<;>rfl
def yu:∀(l:List AV)(k:Nat)(tm:PT AV)(t:Nat),k+l.length<=1048576->(setArgs l k tm).get t=if k<=t/\t<k+l.length then l[t-k]? else tm.get t
 |[],k,tm,t,_=>by show tm.get t=_;rw[ab (by simp only[List.length_nil];omega)]
 |v::l,k,tm,t,h=>by
  simp only[List.length_cons]at h;show(setArgs l (k+1) (tm.set k v)).get t=_;rw[yu l (k+1) (tm.set k v) t aa,PT.sV _ _ _ _ aa];simp only[List.length_cons];by_cases h1:t=k
  ·subst h1;rw[ab aa,ad rfl,ad aa];simp
  by_cases h2:k+1<=t/\t<k+1+l.length
  ·rw[ad h2,ad aa];have:t-k=(t-(k+1))+1:=aa;rw[this];simp
  rw[ab h2,ab h1,ab aa]
def Sj(l:List AV)(t:Nat)(h:l.length<=1048576):slot (setArgs l 0 .leaf) t=(l[t]?).getD aQ:=by
 unfold slot;rw[yu l 0 .leaf t aa];by_cases h1:t<l.length
 ·rw[ad ⟨Nat.zero_le _,aa⟩,Nat.sub_zero,aA h1];rfl
 rw[ab aa,iY aa];rfl
section
variable{P:Program}{tm:PT AV}{H:Hp}{d:Option Tmp}{ty:TypeId}{pos:String}{af:Array Edge}{g:Option (Nat×Bool)}
def PQ{α:Type}{o:Option α}{a:α}{s:String}{f:α->SF}(h:o=some a):(ndF o s f).run tm H=(f a).run tm H:=by subst h;rfl
def PY(t:TypeId)(x:Operand){p:Bool×Nat}(h:loadT P t=some p):(bf P ⟨d,.load t x,ty,pos,af,g⟩).run tm H=eu H p.1 p.2 (ev tm x):=PQ h
def Lc(t:TypeId)(x y:Operand){n:Nat}(h:cM P t=some n):(bf P ⟨d,.store t x y,ty,pos,af,g⟩).run tm H=lR H n (ev tm y) (ev tm x):=PQ h
def ON:evs [] tm=[]:=rfl
def Jf(x:Operand)(l:List Operand):evs (x::l) tm=ev tm x::evs l tm:=rfl
end
section
variable{H:Hp}{alt:ah}
structure Fr(X:Nat->Prop)(H H':Hp):Prop where
 nx:H.nx<=H'.nx
 get:∀i,i<H.nx->¬X i->H'.get i=H.get i
 log:∃l,H'.log=l++H.log/\∀i∈l,H.nx<=i\/X i
abbrev Gr(H H':Hp):Prop:=Fr (λ_=>False) H H'
def Fr.refl{X:Nat->Prop}(H:Hp):Fr X H H:=⟨ai _,λ_ _ _=>rfl,[],rfl,λ_ h=>by cases h⟩
def Fr.trans{X:Nat->Prop}{H1 H2 H3:Hp}(h:Fr X H1 H2)(k:Fr (λi=>H1.nx<=i\/X i) H2 H3):Fr X H1 H3 where
 nx:=aS h.nx k.nx
 get:=λi hi hx=>by rw[k.get i (ax hi h.nx) (λh=>h.elim aa hx),h.get i hi hx]
 log:=by
  obtain⟨l,e,hl⟩:=h.log;obtain⟨l',e',W9⟩:=k.log;refine⟨l'++l,by rw[e',e,bL],λi hi=>?_⟩;rcases List.mem_append.1 hi with hi|hi
  ·rcases W9 i hi with h1|h1
   ·exact .inl (aS h.nx h1)
   exact h1
  exact hl i hi
def Fr.mono{X Y:Nat->Prop}{H H':Hp}(h:Fr X H H')(hxy:∀i,X i->Y i):Fr Y H H':=⟨h.nx,λi hi hy=>h.get i hi λhx=>hy (hxy i hx),by obtain⟨l,e,hl⟩:=h.log;exact⟨l,e,λi hi=>(hl i hi).imp id (hxy i)⟩⟩
def Fr.then{X Y:Nat->Prop}{H1 H2 H3:Hp}(h:Fr X H1 H2)(k:Fr Y H2 H3)(hy:∀i,Y i->H1.nx<=i\/X i):Fr X H1 H3:=h.trans (k.mono hy)
def Fr.gr{X:Nat->Prop}{H1 H2 H3:Hp}(h:Fr X H1 H2)(k:Gr H2 H3):Fr X H1 H3:=h.trans (k.mono λ_ h=>h.elim)
def Fr.new{X:Nat->Prop}{H H':Hp}(h:Fr X H H')(o:aX):Fr X H (H'.new o)where
 nx:=aS h.nx (Nat.le_succ _)
 get:=λi hi hx=>by show(H'.t.set H'.nx o).get i=_;rw[PT.fE,ab (by have:=h.nx;omega)];exact h.get i hi hx
 log:=h.log
def Fr.mod{X:Nat->Prop}{H H':Hp}(h:Fr X H H'){i:Nat}(o:aX)(hi:H.nx<=i\/X i):Fr X H (H'.mod i o)where
 nx:=h.nx
 get:=λj hj hx=>by
  show(H'.t.set i o).get j=_;have Q0:j≠i:=λe=>by subst e;exact hi.elim aa hx
  rw[PT.fE,ab Q0];exact h.get j hj hx
 log:=by
  obtain⟨l,e,hl⟩:=h.log;refine⟨i::l,by show i::H'.log=_;rw[e];rfl,λj hj=>?_⟩;rcases List.mem_cons.1 hj with rfl|hj
  ·exact hi
  exact hl j hj
def Fr.none{H H':Hp}(h:Gr H H'){X:Nat->Prop}:Fr X H H':=Fr.mono h λ_ h=>h.elim
def On{β:Type}(b:Bool)(e:β)(f:Bool->β):gj (.one (.b b)) e f=f b:=rfl
end
inductive GW where
 |yes
 |no
 |lost
def gw(g:Option (Option Tmp×Bool))(tm:PT AV):GW:=
 match g with
 |none=>.yes
 |some (none,_)=>.no
 |some (some t,w)=>match slot tm t with|.one (.b b)=>if b=w then .yes else .no|.tup _=>.no|_=>.lost
def CN(E:Env)(H:Hp)(n:ah)(next:AV->Hp->Prop):Prop:=
 ∀lg,N1 E ⟨H.t,H.nx,lg⟩ n λv h'=>∀lg',(∀X,Fr X ⟨H.t,H.nx,lg⟩ h'->Fr X H ⟨h'.t,h'.nx,lg'⟩)->next v ⟨h'.t,h'.nx,lg'⟩
def CN.n1{E:Env}{H:Hp}{n:ah}{next:AV->Hp->Prop}(h:CN E H n next):N1 E H n next:=
 let ⟨k,v,H',h1,h2⟩:=h H.log;⟨k,v,H',h1,h2 H'.log λ_ h=>h⟩
def WT(E:Env)(A:ag)(d:Option Tmp)(next:ag->Hp->Prop)(H:Hp)(n:ah):Prop:=
 match n with
 |.val v H'=>next (cU A d v) H'
 |.enter f args=>CN E H (.enter f args) λv H'=>next (cU A d v) H'
 |.round id args=>CN E H (.round id args) λv H'=>next (cU A d v) H'
 |_=>False
def WU(E:Env)(o:Oper)(A:ag)(H:Hp)(next:ag->Hp->Prop)(g:GW):Prop:=
 match g with
 |.yes=>WT E A o.dst next H ((bf E.P o).run A.tm H)
 |.no=>next (cU A o.dst aQ) H
 |.lost=>False
def WO(E:Env)(ops:List Oper)(Q:ag->Hp->Prop):List Oper->ag->Hp->Prop
 |[],A,H=>Q A H
 |o::l,A,H=>aZ o.dst A.nt=true/\WU E o A H (WO E ops Q l) (gw (gOf ops o.guard) A.tm)
def WT.n1{E:Env}{A:ag}{d:Option Tmp}{next:ag->Hp->Prop}{H:Hp}{n:ah}(h:WT E A d next H n):N1 E H n λv H'=>next (cU A d v) H':=by
 cases n with
 |val v H'=>exact N1.val h
 |enter f args=>exact CN.n1 h
 |tN l=>exact h.elim
 |round id args=>exact CN.n1 h
 |bad s=>exact h.elim
def rI(g:Option (Option Tmp×Bool))(tm:PT AV):(gw g tm=.yes/\∀a b:R (ag×Hp),cJ tm g a b=a)\/(gw g tm=.no/\∀a b:R (ag×Hp),cJ tm g a b=b)\/gw g tm=.lost:=by
 cases g with
 |none=>exact .inl ⟨rfl,λ_ _=>rfl⟩
 |some p=>
  obtain⟨t,w⟩:=p;cases t with
  |none=>exact .inr (.inl ⟨rfl,λ_ _=>rfl⟩)
  |some t=>
   have e:∀a b:R (ag×Hp),cJ tm (some (some t,w)) a b=aG (tm.get t) b λv=>AV.rec (motive:=λ_=>R (ag×Hp)) (λc=>acE c (λx=>ifE x (ifE w a b) (ifE w b a)) (λ_ _=>b) (λ_=>.bad "guard")) (λ_=>b) (λ_=>b) (.bad "guard") v:=λ_ _=>rfl
   have e2:gw (some (some t,w)) tm=match slot tm t with|.one (.b b)=>if b=w then .yes else .no|.tup _=>.no|_=>.lost:=rfl;unfold slot at e2;cases hv:tm.get t with
   |none=>rw[hv]at e2;exact .inr (.inl ⟨e2,λa b=>by rw[e,hv];rfl⟩)
   |some v=>
    rw[hv]at e2;cases v with
    |one c=>
     cases c with
     |b x=>
      have e3:gw (some (some t,w)) tm=if x=w then .yes else .no:=e2;cases x<;>cases w<;>first
       |exact .inl ⟨e3,λa b=>by rw[e,hv];rfl⟩
       |exact .inr (.inl ⟨e3,λa b=>by rw[e,hv];rfl⟩)
     |i _ _=>exact .inr (.inr e2)
     |o _=>exact .inr (.inr e2)
    |agg _=>exact .inr (.inr e2)
    |tup _=>exact .inr (.inl ⟨e2,λa b=>by rw[e,hv];rfl⟩)
    |any=>exact .inr (.inr e2)
def WO.o1{E:Env}{ops:List Oper}{Q:ag->Hp->Prop}:∀{l:List Oper}{A:ag}{H:Hp},WO E ops Q l A H->O1 E (jH E.P ops l) A H Q
 |[],A,H,h=>O1.nil h
 |o::l,A,H,h=>by
  obtain⟨hd,hg⟩:=h;rcases rI (gOf ops o.guard) A.tm with⟨h1,h2⟩|⟨h1,h2⟩|h1
  ·rw[h1]at hg;obtain⟨n,v,H1,h3,h4⟩:=WT.n1 hg;exact O1.cons h2 hd ⟨n,v,H1,h3,WO.o1 h4⟩
  ·rw[h1]at hg;exact O1.QQ h2 hd (WO.o1 hg)
  rw[h1]at hg;exact hg.elim
def R1.reg{E:Env}{r:Option Nat}{A:ag}{H:Hp}{Q:au->ag->Hp->Prop}{id:Nat}{ops:Array Oper}(h:WO E ops.toList (λA H=>Q .normal A H) ops.toList A H):R1 E r (.region id ops false) A H Q:=R1.region h.o1
def C1.body{E:Env}{H:Hp}{f:FuncId}{fn:Func}{c:Code}{nt:Nat}{res:List ResultVar}{args:List AV}{Q:AV->Hp->Prop}(hf:E.P.funcs[f]?=some fn)(hb:fn.body=some c)(z0:fn.ntmps=nt)(V5:fn.results.toList=res)(hn:Nat.ble args.length nt=true)(W3:Nat.ble nt 1048576=true)
  (h:∀tm,(∀i v,args[i]?=some v->slot tm i=v)->R1 E none c ⟨tm,nt,[]⟩ H λe A' H'=>∃v H2,aK E res (e,A',H')=.ok [(v,H2)]/\Q v H2):C1 E f args H Q:=by
 subst z0 V5;have h1:args.length<=fn.ntmps:=bA hn;have h2:fn.ntmps<=1048576:=bA W3;refine C1.Zg hf hb h1 h2 (h _ λi v hv=>?_);rw[Sj _ _ aa,hv];rfl
def IJ{E:Env}{t:Tmp}{A:ag}{H:Hp}{e:au}{v:AV}{x:Bool×List AC}(he:e=.normal\/e=.ret)(hd:A.dfr=[])(hv:slot A.tm t=v)(hx:mS v=some x):aK E [.tmp t] (e,A,H)=.ok [(gT [x],H)]:=by
 have key:(aG (closeAll H A.dfr) (R.bad "marks") λh2=>aG (dq E.P [.tmp t] A.tm h2) (.bad "results") λl=>.ok [(gT l,h2)])=.ok [(gT [x],H)]:=by
  rw[hd];have hs:(A.tm.get t)=none\/∃u,A.tm.get t=some u/\u=v:=by
   unfold slot at hv;cases hg:A.tm.get t with
   |none=>exact .inl rfl
   |some u=>rw[hg]at hv;exact .inr ⟨u,rfl,hv⟩
  have hr:dq E.P [.tmp t] A.tm H=some [x]:=by
   show aG (aG (A.tm.get t) none mS) none (λx=>aG (some []) none λl=>some (x::l))=some [x];rcases hs with h|⟨u,h,rfl⟩
   ·exfalso;unfold slot at hv;rw[h]at hv;have I5:aQ=v:=hv;rw[<-I5]at hx;cases hx
   rw[h];show aG (mS u) none (λx=>some [x])=_;rw[hx];rfl
  show aG (dq E.P [.tmp t] A.tm H) (R.bad "results") (λl=>R.ok [(gT l,H)])=_
  rw[hr];rfl
 rcases he with rfl|rfl
 ·exact key
 exact key
section
variable{H:Hp}{id g off lim n fo:Nat}
theorem vH(h1:1<=n)(h2:fo+n<=lim):jv H fo n (.one (.o (.ptr id g off lim)))=.val (.one (.o (.ptr id g (off+fo) (lim-fo)))) H:=by show aN (both (Nat.ble 1 n) (Nat.ble (Nat.add fo n) lim)) _ _=_;have e1:Nat.ble 1 n=true:=bU h1;have e2:Nat.ble (Nat.add fo n) lim=true:=bU h2;rw[e1,e2];rfl
theorem GC{len sz i:Nat}(h:i<len):dz H sz (.one (.o (.sl id g off len sz))) (.one (.i .i64 (.ofNat i)))=.val (.one (.o (.ptr id g (off+i*sz) sz))) H:=by show aN (both (Nat.beq sz sz) (Nat.blt i len)) _ _=_;have e1:Nat.beq sz sz=true:=cZ _;have e2:Nat.blt i len=true:=bU h;rw[e1,e2];rfl
theorem ic{len sz i:Nat}(h:i<len):dz H sz (.one (.o (.sl id g off len sz))) (.one (.i .i64 (i:Int)))=.val (.one (.o (.ptr id g (off+i*sz) sz))) H:=GC h
def rowOf(o:Option aX)(g:Nat):Option (List AC):=
 match o with
 |some (.arr cells _ lo gen)=>if lo<=g/\g<=gen then some cells else none
 |some (.ro cells)=>if g=0 then some cells else none
 |_=>none
theorem cH{cells:List AC}{e:TypeId}{lo gen g:Nat}(h1:lo<=g)(h2:g<=gen):rowOf (some (.arr cells e lo gen)) g=some cells:=ad ⟨h1,h2⟩
theorem ti{x:CK}{g:Nat}:rowOf (some (.oth x)) g=none:=rfl
theorem PK(o:Option aX)(g off lim n:Nat):rdO o g off lim n=(rowOf o g).bind λcells=>if n<=lim/\off+n<=cells.length then some ((cells.drop off).take n)else none:=by
 cases o with
 |none=>rfl
 |some o=>
  cases o with
  |arr cells e lo gen=>
   show ifE (both (Nat.ble lo g) (both (Nat.ble g gen) (both (Nat.ble n lim) (Nat.ble (Nat.add off n) (cA cells))))) (some (cut cells off n)) none=(if lo<=g/\g<=gen then some cells else none).bind _;simp only[cW,er,bZ,nU,aV,tu];by_cases h1:lo<=g/\g<=gen
   ·rw[ad h1];by_cases h2:n<=lim/\off+n<=cells.length
    ·rw[ad ⟨h1.1,h1.2,h2.1,h2.2⟩];simp only[Option.bind_some,ad h2]
    rw[ab λh=>h2 ⟨h.2.2.1,h.2.2.2⟩];simp only[Option.bind_some,ab h2]
   rw[ab h1,ab λh=>h1 ⟨h.1,h.2.1⟩];rfl
  |oth x=>rfl
  |ro cells=>
   show ifE (both (Nat.beq g 0) (both (Nat.ble n lim) (Nat.ble (Nat.add off n) (cA cells)))) (some (cut cells off n)) none=(if g=0 then some cells else none).bind _;simp only[cW,er,bZ,nU,aV,tu,tH];by_cases h1:g=0
   ·rw[ad h1];by_cases h2:n<=lim/\off+n<=cells.length
    ·rw[ad ⟨h1,h2.1,h2.2⟩];simp only[Option.bind_some,ad h2]
    rw[ab λh=>h2 ⟨h.2.1,h.2.2⟩];simp only[Option.bind_some,ab h2]
   rw[ab h1,ab λh=>h1 h.1];rfl
def Rd(H:Hp)(id g off n:Nat)(c:List AC):Prop:=∃cells,rowOf (H.get id) g=some cells/\off+n<=cells.length/\(cells.drop off).take n=c
theorem Rd.len{c:List AC}(h:Rd H id g off n c):c.length=n:=by
 obtain⟨cells,h1,h4,rfl⟩:=h;simp
 omega
theorem Rd.part{c:List AC}(h:Rd H id g off n c)(i k:Nat)(hk:i+k<=n):Rd H id g (off+i) k ((c.drop i).take k):=by
 obtain⟨cells,h1,h4,rfl⟩:=h;refine⟨cells,h1,aa,?_⟩;rw[List.drop_take,js,List.take_take];congr 1
 omega
theorem Rd.fI{c:List AC}{H':Hp}(h:Rd H id g off n c)(hg:H'.get id=H.get id):Rd H' id g off n c:=by obtain⟨cells,h1,r⟩:=h;exact⟨cells,by rw[hg];exact h1,r⟩
theorem Jq(o:aX)(i:Nat):(H.new o).get i=if i=H.nx then some o else H.get i:=PT.fE _ _ _ _
theorem Jp(o:aX)(k i:Nat):(H.mod k o).get i=if i=k then some o else H.get i:=PT.fE _ _ _ _
end
section
variable{H:Hp}{kd:Nat}{alt:ah}{a b:List UInt8}{x y:Int}
def WY{f:BF}:cF H kd .eql f (.one (.o (.str a))) (.one (.o (.str b))) alt=.val (.one (.b (lEq a b))) H:=rfl
def WZ{f:BF}:cF H kd .neq f (.one (.o (.str a))) (.one (.o (.str b))) alt=.val (.one (.b (!lEq a b))) H:=rfl
def UH{k:IntKind}:cF H kd .lss (gV .lss) (.one (.i k x)) (.one (.i k y)) alt=.val (.one (.b (decide (x<y)))) H:=by
 have e:cF H kd .lss (gV .lss) (.one (.i k x)) (.one (.i k y)) alt=.val (.one (.b (!iLe y x))) H:=by cases k<;>rfl
 rw[e,BC];congr 3;rw[ix];simp
def UG{k:IntKind}:cF H kd .leq (gV .leq) (.one (.i k x)) (.one (.i k y)) alt=.val (.one (.b (decide (x<=y)))) H:=by
 have e:cF H kd .leq (gV .leq) (.one (.i k x)) (.one (.i k y)) alt=.val (.one (.b (iLe x y))) H:=by cases k<;>rfl
 rw[e,BC]
def UF{k:IntKind}:cF H kd .gtr (gV .gtr) (.one (.i k x)) (.one (.i k y)) alt=.val (.one (.b (decide (y<x)))) H:=by
 have e:cF H kd .gtr (gV .gtr) (.one (.i k x)) (.one (.i k y)) alt=.val (.one (.b (!iLe x y))) H:=by cases k<;>rfl
 rw[e,BC];congr 3;rw[ix];simp
def UE{k:IntKind}:cF H kd .geq (gV .geq) (.one (.i k x)) (.one (.i k y)) alt=.val (.one (.b (decide (y<=x)))) H:=by
 have e:cF H kd .geq (gV .geq) (.one (.i k x)) (.one (.i k y)) alt=.val (.one (.b (iLe y x))) H:=by cases k<;>rfl
 rw[e,BC]
def UC{k:IntKind}:cF H kd .eql (gV .eql) (.one (.i k x)) (.one (.i k y)) alt=.val (.one (.b (x==y))) H:=by
 have e:cF H kd .eql (gV .eql) (.one (.i k x)) (.one (.i k y)) alt=.val (.one (.b (iEq x y))) H:=by cases k<;>rfl
 rw[e,pv]
def UJ{k:IntKind}:cF H kd .neq (gV .neq) (.one (.i k x)) (.one (.i k y)) alt=.val (.one (.b (!(x==y)))) H:=by
 have e:cF H kd .neq (gV .neq) (.one (.i k x)) (.one (.i k y)) alt=.val (.one (.b (!iEq x y))) H:=by cases k<;>rfl
 rw[e,pv]
def UB{k:IntKind}:cF H kd .add (gV .add) (.one (.i k x)) (.one (.i k y)) alt=.val (.one (.i k (k.wrap (x+y)))) H:=by
 have e:cF H kd .add (gV .add) (.one (.i k x)) (.one (.i k y)) alt=.val (.one (.i k (wS k (Int.add x y)))) H:=by cases k<;>rfl
 rw[e,wT];rfl
def UK{k:IntKind}:cF H kd .sub (gV .sub) (.one (.i k x)) (.one (.i k y)) alt=.val (.one (.i k (k.wrap (x-y)))) H:=by
 have e:cF H kd .sub (gV .sub) (.one (.i k x)) (.one (.i k y)) alt=.val (.one (.i k (wS k (Int.sub x y)))) H:=by cases k<;>rfl
 rw[e,wT];rfl
def UI{k:IntKind}:cF H kd .mul (gV .mul) (.one (.i k x)) (.one (.i k y)) alt=.val (.one (.i k (k.wrap (x*y)))) H:=by
 have e:cF H kd .mul (gV .mul) (.one (.i k x)) (.one (.i k y)) alt=.val (.one (.i k (wS k (Int.mul x y)))) H:=by cases k<;>rfl
 rw[e,wT];rfl
end
def aw{E:Env}{t:Tmp}{A:ag}{H:Hp}{e:au}(c:AC)(he:e=.normal\/e=.ret)(hd:A.dfr=[])(hv:slot A.tm t=.one c):aK E [.tmp t] (e,A,H)=.ok [(.one c,H)]:=IJ he hd hv rfl
def fU:∀us:List Did,iH us []=true
 |[]=>rfl
 |u::us=>by show both (yr u.U2 []) (iH us [])=true;rw[fU us];rfl
section
variable{E:Env}{A:ag}{H:Hp}{Q:ag->Hp->Prop}{g:Option (Option Tmp×Bool)}{d:Option Tmp}{f:SF}{o:Oper}{l:List OF}{j m:Nat}{ms:List Nat}{did:List Did}
def D1.nil{j:Nat}{ms:List Nat}(h:Q A H):D1 E [] j ms did A H Q:=⟨0,A,H,rfl,h⟩
def D1.cons(hg:∀y n:R (ag×Hp),cJ A.tm g y n=y)(hd:aZ d A.nt=true){sub:PT aX}(V1:bu H.t H.nx A.tm o (bk m did)=sub)
  (h:N1 E ⟨sub,H.nx,[]⟩ (f.run A.tm ⟨sub,H.nx,[]⟩) λv H'=>iH (bk m did) (fk sub H.nx H'.log)=true /\
   D1 E l (j+1) ms (note (cx o) j sub H H' did (fk sub H.nx H'.log)) (cU A d v) ⟨eM (cx o) H H' (bk m did) (fk sub H.nx H'.log),H'.nx,fk sub H.nx H'.log++H.log⟩ Q):
  D1 E (⟨g,d,f,o⟩::l) j (m::ms) did A H Q:=by
 subst V1;obtain⟨n,v,H1,h1,hf,k,A2,H2,h2,h3⟩:=h;refine⟨max n k,A2,H2,?_,h3⟩;have a1:=xp (E:=E) (fw E (sy n k)) _ h1;have a2:=sQ (E:=E) (fw E (pY n k)) l (j+1) ms _ (cU A d v) _ _ h2;show cJ A.tm g (Bb (cx o) j A d H (bu H.t H.nx A.tm o (bk m did)) (bk m did) did (eG E (eval E (max n k)) l (Nat.add j 1) ms) (mF E (eval E (max n k)) ⟨bu H.t H.nx A.tm o (bk m did),H.nx,[]⟩ (f.run A.tm ⟨bu H.t H.nx A.tm o (bk m did),H.nx,[]⟩)))
  (jA A d aQ H (eG E (eval E (max n k)) l (Nat.add j 1) ms did))=_
 rw[hg,a1];show Eng.ifE (iH (bk m did) (fk (bu H.t H.nx A.tm o (bk m did)) H.nx H1.log)) (jA A d v _ (eG E (eval E (max n k)) l (Nat.add j 1) ms _)) _=_;rw[hf];show jA A d v _ (eG E (eval E (max n k)) l (Nat.add j 1) ms _)=_;rw[mh hd];exact a2
def D1.skip(hg:∀y n:R (ag×Hp),cJ A.tm g y n=n)(hd:aZ d A.nt=true)(h:D1 E l (j+1) ms did (cU A d aQ) H Q):D1 E (⟨g,d,f,o⟩::l) j (m::ms) did A H Q:=by obtain⟨k,A2,H2,h2,h3⟩:=h;refine⟨k,A2,H2,?_,h3⟩;show cJ A.tm g _ (jA A d aQ H (eG E (eval E k) l (Nat.add j 1) ms did))=_;rw[hg,mh hd];exact h2
def D1.pure(hg:∀y n:R (ag×Hp),cJ A.tm g y n=y)(hd:aZ d A.nt=true)(hk:cx o=0){v:AV}(hv:f.run A.tm ⟨.leaf,H.nx,[]⟩=.val v ⟨.leaf,H.nx,[]⟩)
  (h:D1 E l (j+1) ms did (cU A d v) H Q):D1 E (⟨g,d,f,o⟩::l) j (m::ms) did A H Q:=by
 have hs:bu H.t H.nx A.tm o (bk m did)=.leaf:=by unfold bu;rw[hk];rfl
 refine D1.cons hg hd hs ?_;rw[hv];refine N1.val ⟨fU _,?_⟩;rw[hk];have e1:note 0 j .leaf H ⟨.leaf,H.nx,[]⟩ did (fk .leaf H.nx [])=did:=by show Eng.ifE (both true (Nat.beq H.nx H.nx)) did _=did;rw[cZ];rfl
 have e2:eM 0 H ⟨.leaf,H.nx,[]⟩ (bk m did) (fk .leaf H.nx [])=H.t:=by show dh H.t .leaf (dK H.nx (H.nx-H.nx))=H.t;rw[ga];rfl
 rw[e1,e2];exact h
def made(j nx:Nat):Did:=⟨j,.leaf,nx,nx+1,[]⟩
def D1.make(hg:∀y n:R (ag×Hp),cJ A.tm g y n=y)(hd:aZ d A.nt=true)(hk:cx o=0){v:AV}{x:aX}(hv:f.run A.tm ⟨.leaf,H.nx,[]⟩=.val v (Hp.new ⟨.leaf,H.nx,[]⟩ x))
  (h:D1 E l (j+1) ms (made j H.nx::did) (cU A d v) (H.new x) Q):D1 E (⟨g,d,f,o⟩::l) j (m::ms) did A H Q:=by
 have hs:bu H.t H.nx A.tm o (bk m did)=.leaf:=by unfold bu;rw[hk];rfl
 refine D1.cons hg hd hs ?_;rw[hv];refine N1.val ⟨fU _,?_⟩;rw[hk];have Q0:Nat.beq H.nx (H.nx+1)=false:=by
  cases hb:Nat.beq H.nx (H.nx+1)with
  |false=>rfl
  |true=>have:=aO hb;omega
 have e1:note 0 j .leaf H (Hp.new ⟨.leaf,H.nx,[]⟩ x) did (fk .leaf H.nx [])=made j H.nx::did:=by show Eng.ifE (both true (Nat.beq H.nx (H.nx+1))) did _=_;rw[Q0];rfl
 have e2:eM 0 H (Hp.new ⟨.leaf,H.nx,[]⟩ x) (bk m did) (fk .leaf H.nx [])=H.t.set H.nx x:=by show dh H.t ((PT.leaf:PT aX).set H.nx x) (dK H.nx (H.nx+1-H.nx))=_;have:H.nx+1-H.nx=1:=aa;rw[this];show PT.put (((PT.leaf:PT aX).set H.nx x).get H.nx) H.t H.nx=_;rw[PT.fE,ad rfl];rfl
 have e3:fk .leaf H.nx (Hp.new ⟨.leaf,H.nx,[]⟩ x).log=[]:=rfl;rw[e3];have e4:note 0 j .leaf H (Hp.new ⟨.leaf,H.nx,[]⟩ x) did []=made j H.nx::did:=e1;have e5:eM 0 H (Hp.new ⟨.leaf,H.nx,[]⟩ x) (bk m did) []=H.t.set H.nx x:=e2;rw[e4,e5];exact h
def looked(j nx:Nat)(sub:PT aX):Did:=⟨j,sub,nx,nx,[]⟩
def D1.look(hg:∀y n:R (ag×Hp),cJ A.tm g y n=y)(hd:aZ d A.nt=true)(hk:cx o=1){v:AV}
  (hv:f.run A.tm ⟨bu H.t H.nx A.tm o (bk m did),H.nx,[]⟩=.val v ⟨bu H.t H.nx A.tm o (bk m did),H.nx,[]⟩)
  (h:∀sub,bu H.t H.nx A.tm o (bk m did)=sub->D1 E l (j+1) ms (looked j H.nx sub::did) (cU A d v) H Q):D1 E (⟨g,d,f,o⟩::l) j (m::ms) did A H Q:=by
 refine D1.cons hg hd rfl ?_;rw[hv];refine N1.val ⟨fU _,?_⟩;rw[hk];have e2:eM 1 H ⟨bu H.t H.nx A.tm o (bk m did),H.nx,[]⟩ (bk m did) (fk (bu H.t H.nx A.tm o (bk m did)) H.nx [])=H.t:=by show dh H.t _ ([]++dK H.nx (H.nx-H.nx))=H.t;rw[ga];rfl
 rw[e2];exact h _ rfl
end
def yE{t:PT aX}{i:Nat}:∀{l:List Nat},i∈l->i∈pH t l
 |[],h=>by cases h
 |x::l,h=>by
  unfold pH;rcases List.mem_cons.1 h with rfl|h
  ·split<;>exact aT ..
  have ih:=yE (t:=t) h;split
  ·exact aR _ (aR _ ih)
  exact aR _ ih
def rG{src:PT aX}{id:Nat}:∀{l:List Nat}{t:PT aX},(dh t src l).get id=if id∈l then src.get id else t.get id
 |[],t=>by simp[dh]
 |i::l,t=>by
  unfold dh;rw[rG];by_cases hl:id∈l
  ·rw[ad hl,ad (aR _ hl)]
  rw[ab hl,PT.vM];by_cases hi:id=i
  ·subst hi;rw[ad rfl,ad (aT ..)]
  rw[ab hi,ab λhh=>(List.mem_cons.1 hh).elim hi hl]
def gY(P:AV->Hp->Prop)(n:ah):Prop:=
 match n with
 |.val v H=>P v H
 |_=>False
def Vx{P:Program}{d:Option Tmp}{t:TypeId}{x:Operand}{ty:TypeId}{pos:String}{af:Array Edge}{g:Option (Nat×Bool)}{tm:PT AV}{H H':Hp}{id gn off lim:Nat}{v:AV}
  (hx:ev tm x=.one (.o (.ptr id gn off lim))) (h:(bf P ⟨d,.load t x,ty,pos,af,g⟩).run tm H=.val v H'):
  H'=H/\(∀o,H.get id≠some (.oth o))/\∀h:Hp,h.get id=H.get id->(bf P ⟨d,.load t x,ty,pos,af,g⟩).run tm h=.val v h:=by
 cases ht:loadT P t with
 |none=>
  have e:∀h,(bf P ⟨d,.load t x,ty,pos,af,g⟩).run tm h=.bad "load" \/ ∃w,(bf P ⟨d,.load t x,ty,pos,af,g⟩).run tm h=.bad w:=λh=>.inr (by
   show∃w,(ndF (loadT P t) _ _).run tm h=_
   rw[ht];exact⟨_,rfl⟩)
  rcases e H with e|⟨w,e⟩<;>(rw[e]at h;cases h)
 |some p=>
  have e:∀h:Hp,(bf P ⟨d,.load t x,ty,pos,af,g⟩).run tm h=nd (iS h id gn off lim p.2) "load - cells" λc=>ifE p.1 (.val (.agg c) h) (List.rec (motive:=λ_=>ah) (.bad "load - no cell") (λx _ _=>.val (.one x) h) c):=λh=>by rw[PY t x ht,hx];rfl
  rw[e H]at h;cases hr:iS H id gn off lim p.2 with
  |none=>rw[hr]at h;cases h
  |some c=>
   rw[hr]at h;have h':ifE p.1 (ah.val (.agg c) H) (List.rec (motive:=λ_=>ah) (.bad "load - no cell") (λx _ _=>.val (.one x) H) c)=.val v H':=h
   have key:H'=H/\∀k:Hp,ifE p.1 (ah.val (.agg c) k) (List.rec (motive:=λ_=>ah) (.bad "load - no cell") (λx _ _=>.val (.one x) k) c)=.val v k:=by
    cases hb:p.1 with
    |true=>
     rw[hb]at h';injection h' with h1 h2
     exact⟨h2.symm,λk=>by rw[<-h1];rfl⟩
    |false=>
     rw[hb]at h';cases c with
     |nil=>cases h'
     |cons y c=>
      injection h' with h1 h2
      exact⟨h2.symm,λk=>by rw[<-h1];rfl⟩
   refine⟨key.1,?_,λk hk=>?_⟩
   ·intro o ho;have h3:rdO (H.get id) gn off lim p.2=some c:=hr;rw[ho]at h3;cases h3
   rw[e k];have:iS k id gn off lim p.2=some c:=by rw[<-hr];unfold iS;rw[hk]
   rw[this];exact key.2 k
def Su{P:Program}{d:Option Tmp}{t:TypeId}{a x:Operand}{ty:TypeId}{pos:String}{af:Array Edge}{g:Option (Nat×Bool)}{tm:PT AV}{H H':Hp}{id gn off lim:Nat}{v:AV}
  (hx:ev tm a=.one (.o (.ptr id gn off lim))) (h:(bf P ⟨d,.store t a x,ty,pos,af,g⟩).run tm H=.val v H'):
  ∃o,H'=H.mod id o/\(∃k,H.get id=some k)/\∀h:Hp,h.get id=H.get id->(bf P ⟨d,.store t a x,ty,pos,af,g⟩).run tm h=.val v (h.mod id o):=by
 cases ht:cM P t with
 |none=>
  have e:∃w,(bf P ⟨d,.store t a x,ty,pos,af,g⟩).run tm H=.bad w:=by
   show∃w,(ndF (cM P t) _ _).run tm H=_
   rw[ht];exact⟨_,rfl⟩
  obtain⟨w,e⟩:=e;rw[e]at h;cases h
 |some n=>
  have e:∀h:Hp,(bf P ⟨d,.store t a x,ty,pos,af,g⟩).run tm h=qN (h.get id) (.bad "store - no row") λcells e lo gen=>
   aN (both (Nat.beq gn gen) (both (Nat.beq (cA (ev tm x).cells) n) (both (Nat.ble n lim) (both (Nat.ble (Nat.add off n) (cA cells)) (both (Nat.ble lo gen) (ev tm x).cE))))) "store - stale or of another size"
    (.val aQ (h.mod id (.arr (iT cells off (ev tm x).cells) e gen gen))):=λh=>by rw[Lc t a x ht,hx];rfl
  rw[e H]at h;cases hg:H.get id with
  |none=>rw[hg]at h;cases h
  |some o=>
   cases o with
   |oth o=>rw[hg]at h;cases h
   |ro o=>rw[hg]at h;cases h
   |arr cells el lo gen=>
    rw[hg]at h;have h':aN (both (Nat.beq gn gen) (both (Nat.beq (cA (ev tm x).cells) n) (both (Nat.ble n lim) (both (Nat.ble (Nat.add off n) (cA cells)) (both (Nat.ble lo gen) (ev tm x).cE))))) "store - stale or of another size"
     (.val aQ (H.mod id (.arr (iT cells off (ev tm x).cells) el gen gen)))=.val v H':=h
    cases hb:both (Nat.beq gn gen) (both (Nat.beq (cA (ev tm x).cells) n) (both (Nat.ble n lim) (both (Nat.ble (Nat.add off n) (cA cells)) (both (Nat.ble lo gen) (ev tm x).cE))))with
    |false=>rw[hb]at h';cases h'
    |true=>
     rw[hb]at h';injection h' with h1 h2
     refine⟨_,h2.symm,⟨_,rfl⟩,λk hk=>?_⟩;rw[e k,hk];show aN _ _ (ah.val aQ (k.mod id (.arr (iT cells off (ev tm x).cells) el gen gen)))=_;rw[hb,<-h1];rfl
def Ld{H:Hp}{tm:PT AV}{o:Oper}{us:List Did}{id:Nat}{x:Operand}(hk:cx o=1)(hx:x∈o.op.operands.toList)(hid:id∈(ev tm x).ids)(B0:id<H.nx)(hu:∀u∈us,de u id=false):
  (bu H.t H.nx tm o us).get id=H.get id:=by
 have e:bu H.t H.nx tm o us=dh .leaf H.t ((pH H.t (o.op.operands.toList.flatMap λx=>(ev tm x).ids)).filter λi=>Nat.blt i H.nx&&!us.any (de · i)):=by unfold bu;rw[hk];rfl
 rw[e,rG,ad]
 ·rfl
 rw[xP];refine⟨yE (List.mem_flatMap.2 ⟨x,hx,hid⟩),?_⟩;have h1:Nat.blt id H.nx=true:=bU B0;have h2:us.any (de · id)=false:=by rw[xb];intro u hm;rw[hu u hm];simp
 rw[h1,h2];rfl
section
variable{ty:TypeId}{pos:String}{af:Array Edge}{gd:Option (Nat×Bool)}
def yD{u:Did}{i:Nat}:i∈ia u↔de u i=true:=by
 unfold ia de;have hr:∀(n a:Nat),i∈dK a n↔a<=i/\i<a+n:=by
  intro n;induction n with
  |zero=>intro a;show i∈[]↔_;simp
  |succ n ih=>intro a;show i∈a::dK (a+1) n↔_;rw[List.mem_cons,ih];omega
 have e:Nat.sub u.c1 u.c0=u.c1-u.c0:=rfl;rw[iU,e,hr,iZ,wk,aV,tu];have e2:Nat.blt i u.c1=true↔i<u.c1:=⟨λh=>bA h,λh=>bU h⟩;rw[e2];constructor
 ·rintro(h|h)
  ·exact .inl h
  exact .inr ⟨h.1,aa⟩
 rintro(h|h)
 ·exact .inl h
 exact .inr ⟨h.1,aa⟩
end
def N1.mono{E:Env}{H:Hp}{n:ah}{Q Q':AV->Hp->Prop}(h:N1 E H n Q)(hq:∀v H',Q v H'->Q' v H'):N1 E H n Q':=
 let ⟨k,v,H',h1,h2⟩:=h;⟨k,v,H',h1,hq _ _ h2⟩
def ldO(b:Bool)(n off lim:Nat)(H:Hp)(o:Option (List AC)):ah:=
 nd (o.bind λcells=>if n<=lim/\off+n<=cells.length then some ((cells.drop off).take n)else none) "load - cells" λc=>ifE b (.val (.agg c) H) (List.rec (motive:=λ_=>ah) (.bad "load - no cell") (λx _ _=>.val (.one x) H) c)
def stO(n id g off lim:Nat)(x:AV)(H:Hp)(o:Option aX):ah:=
 qN o (.bad "store - no row") λcells e lo gen=>
  aN (both (Nat.beq g gen) (both (Nat.beq (cA x.cells) n) (both (Nat.ble n lim) (both (Nat.ble (Nat.add off n) (cA cells)) (both (Nat.ble lo gen) x.cE))))) "store - stale or of another size"
   (.val aQ (H.mod id (.arr (iT cells off x.cells) e gen gen)))
section
variable{H:Hp}{b:Bool}{n id g off lim lo gen:Nat}{cells:List AC}{e:TypeId}{x:AV}
theorem jW:eu H b n (.one (.o (.ptr id g off lim)))=ldO b n off lim H (rowOf (H.get id) g):=by show nd (rdO (H.get id) g off lim n) _ _=_;rw[PK];rfl
theorem yo:lR H n x (.one (.o (.ptr id g off lim)))=stO n id g off lim x H (H.get id):=rfl
theorem zu(h3:n<=lim)(h4:off+n<=cells.length):ldO true n off lim H (some cells)=.val (.agg ((cells.drop off).take n)) H:=by unfold ldO;simp only[Option.bind_some,ad (zB3 h3 h4)];rfl
theorem zv(h3:1<=lim)(h4:off+1<=cells.length):ldO false 1 off lim H (some cells)=.val (.one ((cells.drop off).headD (.b false))) H:=by
 unfold ldO;simp only[Option.bind_some,ad (zB3 h3 h4)];cases hc:cells.drop off with
 |nil=>have:=congrArg List.length hc;simp at this;omega
 |cons y c=>rfl
theorem PX(h1:g=gen)(h2:x.cells.length=n)(h3:n<=lim)(h4:off+n<=cells.length)(h5:lo<=gen)(h6:x.cE=true):
  stO n id g off lim x H (some (.arr cells e lo gen))=.val aQ (H.mod id (.arr (cells.take off++(x.cells++cells.drop (off+n))) e gen gen)):=by
 subst h1 h2;show aN (both (Nat.beq g g) (both (Nat.beq (cA x.cells) x.cells.length) (both (Nat.ble x.cells.length lim) (both (Nat.ble (Nat.add off x.cells.length) (cA cells)) (both (Nat.ble lo g) x.cE))))) _ _=_;have e4:Nat.ble (Nat.add off x.cells.length) (cA cells)=true:=by rw[bZ];exact bU h4
 rw[cZ,bZ,cZ,bU h3,e4,bU h5,h6,mj];rfl
def SlC(H:Hp)(v:AC)(sz n:Nat)(cells:List AC):Prop:=cells.length=n*sz/\((v=.o .nilS/\n=0)\/∃id g off,v=.o (.sl id g off n sz)/\id<H.nx/\Rd H id g off (n*sz) cells)
theorem SlC.fI{v:AC}{sz n:Nat}{c:List AC}{H':Hp}(h:SlC H v sz n c)(hn:H.nx<=H'.nx)(hg:∀i,i<H.nx->H'.get i=H.get i):SlC H' v sz n c:=by refine⟨h.1,h.2.imp id ?_⟩;rintro⟨id,g,off,h1,h2,h3⟩;exact⟨id,g,off,h1,ax h2 hn,h3.fI (hg _ h2)⟩
theorem SlC.gr{v:AC}{sz n:Nat}{c:List AC}{H':Hp}(h:SlC H v sz n c)(hg:Gr H H'):SlC H' v sz n c:=h.fI hg.nx λi hi=>hg.get i hi λh=>h
theorem SlC.len{v:AC}{sz n:Nat}{c:List AC}(h:SlC H v sz n c):eD H 1 (.one v)=.val (.one (.i .i64 (n:Int))) H:=by rcases h.2 with⟨rfl,rfl⟩|⟨id,g,off,rfl,_⟩<;>rfl
theorem SlC.pos{v:AC}{sz n:Nat}{c:List AC}(h:SlC H v sz n c)(hn:0<n):∃id g off,v=.o (.sl id g off n sz)/\id<H.nx/\Rd H id g off (n*sz) c:=by
 rcases h.2 with⟨_,rfl⟩|h
 ·omega
 exact h
theorem oS{α:Type}{c:α->List AC}{sz:Nat}(hc:∀x,(c x).length=sz):∀l:List α,(l.flatMap c).length=l.length*sz
 |[]=>by simp
 |x::l=>by rw[List.flatMap_cons,aI,hc,oS hc l,List.length_cons];rw[pW];omega
theorem Gv{α:Type}{c:α->List AC}{sz:Nat}(hc:∀x,(c x).length=sz):∀(l:List α)(i:Nat)(x:α),l[i]?=some x->((l.flatMap c).drop (i*sz)).take sz=c x
 |[],i,x,h=>by simp at h
 |y::l,0,x,h=>by simp only[List.getElem?_cons_zero,tI]at h;subst h;rw[Nat.zero_mul,List.drop_zero,List.flatMap_cons,tw (by rw[hc];exact ai _),iy (by rw[hc];exact ai _)]
 |y::l,i+1,x,h=>by rw[List.getElem?_cons_succ]at h;rw[List.flatMap_cons,pW,Aj,hc,pU (by rw[hc];omega),iz];have:i*sz+sz-sz=i*sz:=aa;rw[this];exact Gv hc l i x h
theorem Rd.at{α:Type}{c:α->List AC}{sz:Nat}(hc:∀x,(c x).length=sz){l:List α}(h:Rd H id g off (l.length*sz) (l.flatMap c)){i:Nat}{x:α}(hi:l[i]?=some x):Rd H id g (off+i*sz) sz (c x):=by
 have B0:i<l.length:=by
  rcases cL i l.length with h|h
  ·exact h
  rw[iY h]at hi;cases hi
 have:=h.part (i*sz) sz (by have:(i+1)*sz<=l.length*sz:=lD _ B0;rw[pW]at this;exact this)
 rwa [Gv hc l i x hi]at this
end
def gwv(v:AV)(w:Bool):GW:=match v with|.one (.b b)=>if b=w then .yes else .no|.tup _=>.no|_=>.lost
def aai(w:Bool):gwv aQ w=.no:=rfl
def aah(b w:Bool):gwv (.one (.b b)) w=if b=w then .yes else .no:=rfl
def Uy(t:Tmp)(w:Bool)(tm:PT AV):gw (some (some t,w)) tm=gwv (slot tm t) w:=rfl
def Jo(ops:List Oper)(j:Nat)(w:Bool):gOf ops (some (j,w))=(ops[j]?).elim (some (none,w)) λo=>some (o.dst,w):=by show(match ops[j]? with|none=>some (none,w)|some o=>some (o.dst,w))=_;cases ops[j]?<;>rfl
def DC{α β:Type}(g:α->R β):∀(l l':List α)(o o':List β),dO g l=.ok o->dO g l'=.ok o'->dO g (l++l')=.ok (o++o')
 |[],_,_,_,h,_=>by cases h
 |[a],l',o,o',h,h'=>by
  cases l' with
  |nil=>cases h'
  |cons b l'=>have e:g a=.ok o:=h;show AB (g a) (dO g (b::l'))=_;rw[e,h'];rfl
 |a::b::l,l',o,o',h,h'=>by
  have h1:AB (g a) (dO g (b::l))=.ok o:=h;cases ha:g a with
  |bad s=>rw[ha]at h1;cases h1
  |ok oa=>
   cases hb:dO g (b::l)with
   |bad s=>rw[ha,hb]at h1;cases h1
   |ok ob=>
    rw[ha,hb]at h1;have e:oa++ob=o:=by injection h1
    subst e;show AB (g a) (dO g (b::l++l'))=_;rw[ha,DC g (b::l) l' ob o' hb h'];show R.ok (oa++(ob++o'))=_;rw[bL]
def DD{α β γ:Type}{f:α->R β}{g:β->R γ}:∀(l:List α)(o:List γ),dO (λa=>(f a).bind g) l=.ok o->(dO f l).bind g=.ok o
 |[],_,h=>by cases h
 |[a],_,h=>h
 |a::b::l,o,h=>by
  have h1:AB ((f a).bind g) (dO (λa=>(f a).bind g) (b::l))=.ok o:=h;cases ha:(f a).bind g with
  |bad s=>rw[ha]at h1;cases h1
  |ok oa=>
   cases hb:dO (λa=>(f a).bind g) (b::l)with
   |bad s=>rw[ha,hb]at h1;cases h1
   |ok ob=>
    rw[ha,hb]at h1;have e:oa++ob=o:=by injection h1
    subst e;have ih:=DD (b::l) ob hb;show(AB (f a) (dO f (b::l))).bind g=_;cases hf:f a with
    |bad s=>rw[hf]at ha;cases ha
    |ok la=>
     rw[hf]at ha;cases hl:dO f (b::l)with
     |bad s=>rw[hl]at ih;cases ih
     |ok lb=>rw[hl]at ih;exact DC g la lb oa ob ha ih
def TK{α β γ:Type}{x:R α}{f:α->R β}{g:β->R γ}{o:List γ}(h:x.bind (λa=>(f a).bind g)=.ok o):(x.bind f).bind g=.ok o:=by
 cases x with
 |bad s=>cases h
 |ok l=>exact DD l o h
section
variable{E:Env}{r:Option Nat}{A:ag}{H:Hp}{Q:au->ag->Hp->Prop}{x y z:Code}
def R1.aJ(h:R1 E r (.seq x (.seq y z)) A H Q):R1 E r (.seq (.seq x y) z) A H Q:=by
 obtain⟨n,e,A1,H1,h1,h2⟩:=h;refine⟨n,e,A1,H1,?_,h2⟩;show(((codeF E x).run (eval E n) r A H).bind (xI (codeF E y) (eval E n) r)).bind (xI (codeF E z) (eval E n) r)=_;have he:(λa=>(xI (codeF E y) (eval E n) r a).bind (xI (codeF E z) (eval E n) r))=xI (codeF E (.seq y z)) (eval E n) r:=by
  funext a
  obtain⟨e,A2,H2⟩:=a;cases e<;>rfl
 refine TK ?_;rw[he];exact h1
def R1.WD{c:Operand}{b:Bool}(hc:ev A.tm c=.one (.b b))(h1:b=true->R1 E r (.seq x z) A H Q)(h2:b=false->R1 E r (.seq y z) A H Q):R1 E r (.seq (.cond c x y) z) A H Q:=by
 cases b with
 |true=>
  obtain⟨n,e,A1,H1,h3,h4⟩:=h1 rfl;refine⟨n,e,A1,H1,?_,h4⟩;show(gj (ev A.tm c) (.bad "cond") (λb=>Eng.ifE b ((codeF E x).run (eval E n) r A H) ((codeF E y).run (eval E n) r A H))).bind _=_
  rw[hc];exact h3
 |false=>
  obtain⟨n,e,A1,H1,h3,h4⟩:=h2 rfl;refine⟨n,e,A1,H1,?_,h4⟩;show(gj (ev A.tm c) (.bad "cond") (λb=>Eng.ifE b ((codeF E x).run (eval E n) r A H) ((codeF E y).run (eval E n) r A H))).bind _=_
  rw[hc];exact h3
def R1.bT(h:R1 E r z A H Q):R1 E r (.seq .skip z) A H Q:=R1.seq (R1.skip h)
def R1.yQ(h:Q .ret A H):R1 E r (.seq .ret z) A H Q:=R1.seq (R1.ret h)
def R1.si{id:Nat}(h:Q (.exit id) A H):R1 E r (.seq (.exit id) z) A H Q:=R1.seq (R1.exit h)
def R1.nQ(h:R1 E r (.seq x z) A H Q):R1 E r (.seq (.scope x) z) A H Q:=h
def R1.bj{id:Nat}(h:∀K:au->ag->Hp->Prop,(∀A H,R1 E r z A H Q->K .normal A H)->(∀A H,R1 E r z A H Q->K (.exit id) A H)->(∀i A H,i≠id->Q (.exit i) A H->K (.exit i) A H)->(∀A H,Q .ret A H->K .ret A H)->R1 E r x A H K):R1 E r (.seq (.block id x) z) A H Q:=by
 refine R1.seq (R1.block (h _ (λA H h=>h) (λA H h=>?_) (λi A H hi h=>?_) λA H h=>h))
 ·show if id=id then _ else _;rw[ad rfl];exact h
 show if i=id then _ else _;rw[ab hi];exact h
end
def opK(o:Oper):Nat:=
 match o.op with
 |.move _=>0
 |.assign _=>0
 |.pick ..=>0
 |.build ..=>0
 |.nilCheck _=>0
 |.binOp ..=>0
 |.unOp ..=>0
 |.convert ..=>0
 |.fieldAddr ..=>0
 |.field ..=>0
 |.indexAddr ..=>0
 |.index ..=>0
 |.slice ..=>0
 |.extract ..=>0
 |.makeFunc ..=>0
 |.alloc _=>1
 |.box ..=>1
 |.buildSlice ..=>1
 |.makeSlice ..=>1
 |.makeMap ..=>1
 |.load ..=>2
 |.lookup ..=>2
 |.mapUpdate ..=>3
 |.store ..=>3
 |.call ⟨.value _,_,_⟩=>3
 |.call ⟨.builtin .len,⟨[_]⟩,⟨[_]⟩⟩=>2
 |.call ⟨.builtin .min,_,_⟩=>2
 |.call ⟨.builtin .max,_,_⟩=>2
 |.call ⟨.builtin .append,⟨[_,_]⟩,⟨[_,_]⟩⟩=>3
 |_=>4
def MI:Nat->Nat->Bool
 |0,_=>true
 |1,_=>true
 |2,k=>Nat.beq k 0||Nat.beq k 2
 |3,k=>Nat.beq k 0
 |6,k=>Nat.beq k 0||Nat.beq k 2
 |_,_=>false
def dd(k m:Nat):Nat->List Nat->Bool
 |_,[]=>true
 |i,ki::ks=>(Nat.testBit m i||MI k ki)&&dd k m (Nat.add i 1) ks
def plK(st:Bool)(o:Oper):Nat:=bif st&&eF o then 6 else opK o
def Ho(st:Bool):List Nat->List Oper->List Nat->Bool
 |_,[],_=>true
 |before,o::os,m::ms=>(Nat.blt (opK o) 4&&dd (plK st o) m 0 before)&&Ho st (before++[opK o]) os ms
 |_,_::_,[]=>false
def sk(st:Bool)(ops:Array Oper):Bool:=iu ops&&Ho st [] ops.toList (gR [] 0 ops.toList)
def yS{k m:Nat}:∀{i:Nat}{ks:List Nat},dd k m i ks=true->∀j kj,ks[j]?=some kj->Nat.testBit m (i+j)=true\/MI k kj=true
 |_,[],_,j,kj,h=>by simp at h
 |i,x::ks,h,0,kj,hj=>by unfold dd at h;rw[aV,iZ]at h;simp only[List.getElem?_cons_zero,tI]at hj;subst hj;exact h.1
 |i,x::ks,h,j+1,kj,hj=>by
  unfold dd at h;rw[aV]at h;rw[List.getElem?_cons_succ]at hj;have:=yS h.2 j kj hj;have e:i+(j+1)=Nat.add i 1+j:=by show i+(j+1)=(i+1)+j;omega
  rw[e];exact this
def PS(n:Hp->ah):Prop:=(∃v,∀h,n h=.val v h)\/∀h v h',n h≠.val v h'
def PS.same(v:AV):PS λh=>.val v h:=.inl ⟨v,λ_=>rfl⟩
def PS.bad(s:String):PS λ_=>.bad s:=.inr λ_ _ _ h=>by cases h
def PS.nd{α:Type}{o:Option α}{s:String}{f:α->Hp->ah}(h:∀a,PS (f a)):PS λk=>nd o s λa=>f a k:=by
 cases o with
 |none=>exact PS.bad s
 |some a=>exact h a
def PS.guard{b:Bool}{s:String}{n:Hp->ah}(h:PS n):PS λk=>aN b s (n k):=by
 cases b with
 |true=>exact h
 |false=>exact PS.bad s
def PS.ifE{b:Bool}{x y:Hp->ah}(hx:PS x)(hy:PS y):PS λk=>Eng.ifE b (x k) (y k):=by
 cases b with
 |true=>exact hx
 |false=>exact hy
def PS.aG{α:Type}{o:Option α}{e:Hp->ah}{f:α->Hp->ah}(he:PS e)(h:∀a,PS (f a)):PS λk=>Eng.aG o (e k) λa=>f a k:=by
 cases o with
 |none=>exact he
 |some a=>exact h a
def PS.xF{x:AV}{e:Hp->ah}{f:Nat->Nat->Nat->Nat->Hp->ah}(he:PS e)(h:∀a b c d,PS (f a b c d)):PS λk=>Eng.xF x (e k) λa b c d=>f a b c d k:=by
 cases x with
 |one c=>cases c with
  |o q=>cases q<;>first|exact he|exact h _ _ _ _
  |b _=>exact he
  |i _ _=>exact he
 |agg _=>exact he
 |tup _=>exact he
 |any=>exact he
def PS.slE{x:AV}{e:Hp->ah}{f:Nat->Nat->Nat->Nat->Nat->Hp->ah}(he:PS e)(h:∀a b c d g,PS (f a b c d g)):PS λk=>Eng.slE x (e k) λa b c d g=>f a b c d g k:=by
 cases x with
 |one c=>cases c with
  |o q=>cases q<;>first|exact he|exact h _ _ _ _ _
  |b _=>exact he
  |i _ _=>exact he
 |agg _=>exact he
 |tup _=>exact he
 |any=>exact he
def PS.gW{x:AV}{e:Hp->ah}{f:IntKind->Int->Hp->ah}(he:PS e)(h:∀a b,PS (f a b)):PS λk=>Eng.gW x (e k) λa b=>f a b k:=by
 cases x with
 |one c=>cases c with|o q=>exact he|b _=>exact he|i _ _=>exact h _ _
 |agg _=>exact he
 |tup _=>exact he
 |any=>exact he
def PS.gj{x:AV}{e:Hp->ah}{f:Bool->Hp->ah}(he:PS e)(h:∀a,PS (f a)):PS λk=>Eng.gj x (e k) λa=>f a k:=by
 cases x with
 |one c=>cases c with|o q=>exact he|b _=>exact h _|i _ _=>exact he
 |agg _=>exact he
 |tup _=>exact he
 |any=>exact he
def PS.lC{x:AV}{e:Hp->ah}{f:List UInt8->Hp->ah}(he:PS e)(h:∀a,PS (f a)):PS λk=>Eng.lC x (e k) λa=>f a k:=by
 cases x with
 |one c=>cases c with
  |o q=>cases q<;>first|exact he|exact h _
  |b _=>exact he
  |i _ _=>exact he
 |agg _=>exact he
 |tup _=>exact he
 |any=>exact he
section
variable{P:Program}
def wC{tm:PT AV}{o:Oper}:PS λh=>aD P tm h o:=by
 unfold aD;refine PS.guard ?_;cases aH P (execOp (λx=>cq (ev tm x)) o)with
 |none=>exact PS.bad _
 |some n=>cases n<;>first|exact PS.bad _|exact PS.guard (PS.same _)
def yq(i:Nat):∀l:List (Bool×List AC),PS λH=>Nat.rec (motive:=λ_=>List (Bool×List AC)->ah)
   (λl=>List.rec (motive:=λ_=>ah) (.bad "extract") (λx _ _=>Eng.ifE x.1 (.val (.agg x.2) H) (List.rec (motive:=λ_=>ah) (.bad "extract") (λc m _=>List.rec (motive:=λ_=>ah) (.val (.one c) H) (λ_ _ _=>.bad "extract") m) x.2)) l)
   (λ_ ih l=>List.rec (motive:=λ_=>ah) (.bad "extract") (λ_ l' _=>ih l') l) i l:=by
 induction i with
 |zero=>
  intro l;cases l with
  |nil=>exact PS.bad _
  |cons x l=>
   refine PS.ifE (PS.same _) ?_;obtain⟨b,c⟩:=x;cases c with
   |nil=>exact PS.bad _
   |cons y c=>cases c<;>first|exact PS.same _|exact PS.bad _
 |succ i ih=>
  intro l;cases l with
  |nil=>exact PS.bad _
  |cons x l=>exact ih l
def Mp{x:AV}{i:Nat}:PS λH=>eI H x i:=by
 cases x with
 |tup l=>exact yq i l
 |one _=>exact PS.bad _
 |agg _=>exact PS.bad _
 |any=>exact yq i []
def aaK{kd:Nat}{op:BinOp}{f:BF}{x y:AV}{alt:Hp->ah}(ha:PS alt):PS λH=>cF H kd op f x y (alt H):=by
 cases x with
 |one c=>cases c with
  |o q=>
   show PS λH=>oL H kd op (.one (.o q)) y (alt H);unfold oL;refine PS.lC ?_ λ_=>PS.lC ha λ_=>PS.aG ha λ_=>PS.same _;unfold sO;cases Pt kd (.one (.o q)) y with
   |none=>exact ha
   |some b=>cases op<;>first|exact PS.same _|exact PS.bad _
  |b _=>exact ha
  |i k a=>show PS λH=>Eng.gW y (alt H) λk' b=>oK H f k a k' b (alt H);exact PS.gW ha λk' b=>PS.ifE (by cases f<;>first|exact PS.same _|exact ha) ha
 |agg _=>exact ha
 |tup _=>exact ha
 |any=>exact ha
def Ut{fo n:Nat}{a:Bool}{x:AV}:PS λH=>zn H fo n a x:=by
 cases x with
 |agg l=>exact PS.ifE (PS.guard (PS.same _)) (PS.nd λ_=>PS.same _)
 |one _=>exact PS.bad _
 |tup _=>exact PS.bad _
 |any=>exact PS.bad _
def Kf{x:AV}:PS λH=>kh H x:=by
 cases x with
 |one c=>cases c with
  |o q=>cases q<;>first|exact PS.bad _|exact PS.same _
  |b _=>exact PS.bad _
  |i _ _=>exact PS.bad _
 |agg _=>exact PS.bad _
 |tup _=>exact PS.bad _
 |any=>exact PS.bad _
def SF.MF{α:Type}{o:Option α}{s:String}{f:α->SF}{tm:PT AV}(h:∀a,PS ((f a).run tm)):PS ((ndF o s f).run tm):=by
 cases o with
 |none=>exact PS.bad _
 |some a=>exact h a
def SF.ifPS{b:Bool}{s:String}{f:SF}{tm:PT AV}(h:PS (f.run tm)):PS ((Eng.ifE b f (oH s)).run tm):=by
 cases b with
 |false=>exact PS.bad _
 |true=>exact h
def Qa{tm:PT AV}{o:Oper}(hk:opK o=0):PS ((bf P o).run tm):=by
 have hp:∀o,PS λH=>aD P tm H o:=λ_=>wC;obtain⟨dst,op,type,pos,after,guard⟩:=o;cases op with
 |move x=>cases x<;>exact PS.same _
 |assign x=>cases x<;>exact PS.same _
 |pick c x y=>exact PS.gj (PS.bad _) λ_=>PS.same _
 |build t parts=>exact SF.MF λ_=>SF.MF λ_=>SF.MF λ_=>PS.nd λ_=>PS.same _
 |nilCheck x=>exact Kf
 |binOp op t x y c=>exact aaK (hp _)
 |unOp op t x=>show PS λH=>Me H op _ (aD P tm H _);unfold Me;cases op<;>first|exact PS.gj wC λ_=>PS.same _|exact wC
 |convert s d x=>exact hp _
 |fieldAddr s x f=>exact SF.MF λ_=>PS.xF (PS.bad _) λ_ _ _ _=>PS.guard (PS.same _)
 |field t x f=>exact SF.MF λ_=>SF.MF λ_=>Ut
 |indexAddr t x i=>exact SF.MF λ_=>PS.slE (PS.bad _) λ_ _ _ _ _=>PS.gW (PS.bad _) λ_ _=>PS.nd λ_=>PS.guard (PS.same _)
 |index t x i=>exact PS.ifE (PS.lC (hp _) λ_=>PS.gW (hp _) λ_ _=>PS.nd λ_=>PS.nd λ_=>PS.same _) (hp _)
 |slice t x lo hi mx=>
  cases mx with
  |some _=>exact PS.bad _
  |none=>
   cases he:cG P t with
   |none=>
    have:bf P ⟨dst,.slice t x lo hi none,type,pos,after,guard⟩=.mk λtm h=>aD P tm h ⟨dst,.slice t x lo hi none,type,pos,after,guard⟩:=by simp[bf,he]
    rw[this];exact hp _
   |some p=>
    have:bf P ⟨dst,.slice t x lo hi none,type,pos,after,guard⟩=.mk λtm h=>eU h p.2 ((opF x).ev tm) (lo.map (ev tm)) (hi.map (ev tm)) (aD P tm h ⟨dst,.slice t x lo hi none,type,pos,after,guard⟩):=by simp[bf,he]
    rw[this];exact PS.slE (hp _) λ_ _ _ _ _=>PS.nd λ_=>PS.nd λ_=>PS.guard (PS.same _)
 |extract x i=>exact Mp
 |makeFunc fn first caps=>
  cases fn with
  |func f=>exact SF.ifPS (PS.nd λ_=>PS.same _)
  |_=>exact PS.bad _
 |call c=>
  exfalso;revert hk
  show opK ⟨dst,.call c,type,pos,after,guard⟩=0->False;unfold opK;intro hk;split at hk<;>first|exact absurd hk aU|(rename_i h;cases h)
 |_=>cases hk
def NS(n:Hp->ah):Prop:=∀h v h',n h=.val v h'->∃x,h'=h.new x/\∀k:Hp,k.nx=h.nx->n k=.val v (k.new x)
def NS.mk(f:Nat->AV)(x:aX):NS λh=>.val (f h.nx) (h.new x):=λh v h' e=>by
 injection e with e1 e2
 subst e1 e2;exact⟨x,rfl,λk hk=>by simp only[hk]⟩
def NS.bad(s:String):NS λ_=>.bad s:=λ_ _ _ h=>by cases h
def NS.nd{α:Type}{o:Option α}{s:String}{f:α->Hp->ah}(h:∀a,NS (f a)):NS λk=>nd o s λa=>f a k:=by
 cases o with
 |none=>exact NS.bad s
 |some a=>exact h a
def NS.guard{b:Bool}{s:String}{n:Hp->ah}(h:NS n):NS λk=>aN b s (n k):=by
 cases b with
 |true=>exact h
 |false=>exact NS.bad s
def NS.gW{x:AV}{e:Hp->ah}{f:IntKind->Int->Hp->ah}(he:NS e)(h:∀a b,NS (f a b)):NS λk=>Eng.gW x (e k) λa b=>f a b k:=by
 cases x with
 |one c=>cases c with|o q=>exact he|b _=>exact he|i _ _=>exact h _ _
 |agg _=>exact he
 |tup _=>exact he
 |any=>exact he
def Fo{c:List AC}{e:TypeId}:NS λH=>oe H c e:=NS.mk (λn=>.one (.o (.ptr n 0 0 (cA c)))) _
def SF.YV{α:Type}{o:Option α}{s:String}{f:α->SF}{tm:PT AV}(h:∀a,NS ((f a).run tm)):NS ((ndF o s f).run tm):=by
 cases o with
 |none=>exact NS.bad _
 |some a=>exact h a
def SF.ifNS{b:Bool}{s:String}{f:SF}{tm:PT AV}(h:NS (f.run tm)):NS ((Eng.ifE b f (oH s)).run tm):=by
 cases b with
 |false=>exact NS.bad _
 |true=>exact h
def PZ{tm:PT AV}{o:Oper}(hk:opK o=1):NS ((bf P o).run tm):=by
 obtain⟨dst,op,type,pos,after,guard⟩:=o;cases op with
 |alloc e=>exact SF.YV λ_=>Fo
 |box e x=>exact NS.guard Fo
 |buildSlice t len parts=>exact SF.YV λes=>SF.YV λ_=>SF.ifNS (SF.YV λ_=>NS.nd λ_=>NS.mk (λn=>.one (.o (.sl n 0 0 len es.2))) _)
 |makeSlice t l c=>exact NS.nd λes=>NS.nd λ_=>NS.nd λ_=>NS.gW (NS.bad _) λ_ _=>NS.gW (NS.bad _) λ_ _=>NS.nd λk=>NS.nd λ_=>NS.guard (NS.mk (λn=>.one (.o (.sl n 0 0 k es.2))) _)
 |makeMap t r=>
  cases r with
  |some _=>exact NS.bad _
  |none=>exact NS.mk (λn=>.one (.o (.mp n))) _
 |call c=>
  exfalso;revert hk
  show opK ⟨dst,.call c,type,pos,after,guard⟩=1->False;unfold opK;intro hk;split at hk<;>first|exact absurd hk aU|(rename_i h;cases h)
 |_=>cases hk
end
def fH(o:Oper):List Operand:=
 match o.op with
 |.load _ x=>[x]
 |.lookup _ x _ _=>[x]
 |.mapUpdate _ x _ _=>[x]
 |.store _ a _=>[a]
 |.call ⟨.builtin .len,⟨[x]⟩,_⟩=>[x]
 |.call ⟨.builtin .append,⟨[s,x]⟩,_⟩=>[s,x]
 |_=>[]
def BM{o:Oper}{x:Operand}(h:x∈fH o):x∈o.op.operands.toList:=by
 obtain⟨dst,op,type,pos,after,guard⟩:=o;unfold fH at h;split at h
 ·rename_i hh;cases hh;simp at h;subst h;simp[Op.operands]
 ·rename_i hh;cases hh;simp at h;subst h;simp[Op.operands]
 ·rename_i hh;cases hh;simp at h;subst h;simp[Op.operands]
 ·rename_i hh;cases hh;simp at h;subst h;simp[Op.operands]
 ·rename_i hh;cases hh;simp at h;subst h;simp[Op.operands,Call.operands]
 ·rename_i hh;cases hh;simp at h;rcases h with rfl|rfl<;>simp[Op.operands,Call.operands]
 cases h
def Agr(o:Oper)(tm:PT AV)(H h:Hp):Prop:=h.nx=H.nx/\∀x∈fH o,∀id∈(ev tm x).ids,h.get id=H.get id
def EG(P:Program)(o:Oper):Prop:=∀tm H v H',(bf P o).run tm H=.val v H'->H'=H/\∀h,Agr o tm H h->(bf P o).run tm h=.val v h
def PS.look{P:Program}{o:Oper}(h:∀tm,PS ((bf P o).run tm)):EG P o:=λtm H v H' e=>by
 rcases h tm with⟨v',h'⟩|h'
 ·have e':=(h' H).symm.trans e;injection e' with e1 e2
  subst e1;exact⟨e2.symm,λk _=>h' k⟩
 exact absurd e (h' H v H')
def Vq{P:Program}{d:Option Tmp}{x:Operand}{t:TypeId}{ty:TypeId}{pos:String}{af:Array Edge}{g:Option (Nat×Bool)}:EG P ⟨d,.call ⟨.builtin .len,⟨[x]⟩,⟨[t]⟩⟩,ty,pos,af,g⟩:=by
 intro tm H v H' h;have e:∀h,(bf P ⟨d,.call ⟨.builtin .len,⟨[x]⟩,⟨[t]⟩⟩,ty,pos,af,g⟩).run tm h=(ndF (ly P t) "len - type" λk=>.mk λtm h=>eD h k (ev tm x)).run tm h:=λh=>rfl
 rw[e]at h;cases hk:ly P t with
 |none=>rw[hk]at h;cases h
 |some k=>
  rw[hk]at h;have h':eD H k (ev tm x)=.val v H':=h;have key:∀h,eD h k (ev tm x)=.val v h->(bf P ⟨d,.call ⟨.builtin .len,⟨[x]⟩,⟨[t]⟩⟩,ty,pos,af,g⟩).run tm h=.val v h:=λh hh=>by rw[e,hk];exact hh
  match k with
  |0=>
   have p:PS λh=>eD h 0 (ev tm x):=PS.lC (PS.bad _) λ_=>PS.same _;rcases p with⟨v',p⟩|p
   ·have h2:=(p H).symm.trans h';injection h2 with e1 e2;subst e1;exact⟨e2.symm,λk _=>key k (p k)⟩
   exact absurd h' (p H v H')
  |1=>
   have p:PS λh=>eD h 1 (ev tm x):=PS.slE (PS.guard (PS.same _)) λ_ _ _ _ _=>PS.same _;rcases p with⟨v',p⟩|p
   ·have h2:=(p H).symm.trans h';injection h2 with e1 e2;subst e1;exact⟨e2.symm,λk _=>key k (p k)⟩
   exact absurd h' (p H v H')
  |k+2=>
   have h2:gk H (ev tm x)=.val v H':=h';unfold gk at h2;split at h2
   ·injection h2 with e1 e2
    rename_i hx
    refine⟨e2.symm,λk _=>key k ?_⟩;show gk k (ev tm x)=_;rw[hx,<-e1];rfl
   ·rename_i id hx
    split at h2
    ·rename_i es c hg
     injection h2 with e1 e2
     refine⟨e2.symm,λk hk=>key k ?_⟩;show gk k (ev tm x)=_;have hid:k.get id=H.get id:=hk.2 x (by simp[fH]) id (by rw[hx];exact List.mem_singleton.2 rfl);rw[hx,<-e1];unfold gk;simp only[hid,hg]
    cases h2
   cases h2
def yF{P:Program}{d:Option Tmp}{b:Builtin}(hb:b=.min\/b=.max){xs:Array Operand}{ts:Array TypeId}{ty:TypeId}{pos:String}{af:Array Edge}{g:Option (Nat×Bool)}:EG P ⟨d,.call ⟨.builtin b,xs,ts⟩,ty,pos,af,g⟩:=by
 refine PS.look λtm=>?_;have e:(bf P ⟨d,.call ⟨.builtin b,xs,ts⟩,ty,pos,af,g⟩).run tm=λh=>aD P tm h ⟨d,.call ⟨.builtin b,xs,ts⟩,ty,pos,af,g⟩:=by rcases hb with rfl|rfl<;>rfl
 rw[e];exact wC
def Rt{P:Program}{d:Option Tmp}{t:TypeId}{x:Operand}{ty:TypeId}{pos:String}{af:Array Edge}{g:Option (Nat×Bool)}:EG P ⟨d,.load t x,ty,pos,af,g⟩:=by
 intro tm H v H' h;have hx:∃id gn off lim,ev tm x=.one (.o (.ptr id gn off lim)):=by
  cases ht:loadT P t with
  |none=>
   have e:(bf P ⟨d,.load t x,ty,pos,af,g⟩).run tm H=.bad "load - type" := by show(ndF (loadT P t) _ _).run tm H=_;rw[ht];rfl
   rw[e]at h;cases h
  |some p=>
   rw[PY t x ht]at h;unfold eu at h;cases hv:ev tm x with
   |one c=>cases c with
    |o q=>cases q<;>first|exact⟨_,_,_,_,rfl⟩|(rw[hv]at h;cases h)
    |b _=>rw[hv]at h;cases h
    |i _ _=>rw[hv]at h;cases h
   |agg _=>rw[hv]at h;cases h
   |tup _=>rw[hv]at h;cases h
   |any=>rw[hv]at h;cases h
 obtain⟨id,gn,off,lim,hx⟩:=hx;obtain⟨e1,_,h3⟩:=Vx hx h;exact⟨e1,λk hk=>h3 k (hk.2 x (by simp[fH]) id (by rw[hx];exact List.mem_singleton.2 rfl))⟩
def kS{H H':Hp}{ok b:Bool}{x v:AV}(h:bO H ok x b=.val v H'):H'=H/\∀h,bO h ok x b=.val v h:=by
 unfold bO at h |-;cases ok with
 |false=>injection h with e1 e2;exact⟨e2.symm,λk=>by rw[<-e1]⟩
 |true=>
  cases hn:x.cE with
  |false=>simp only[hn]at h;cases h
  |true=>
   simp only[hn]at h |-;injection h with e1 e2
   exact⟨e2.symm,λk=>by rw[<-e1];rfl⟩
def My{P:Program}{H H':Hp}{kt:TypeId}{z k v:AV}{ok:Bool}{l:List (Int×AV)}(h:rS P H kt z k ok l=.val v H'):H'=H/\∀h',rS P h' kt z k ok l=.val v h':=by
 unfold rS at h |-;cases hk:Nat.beq (bY P kt) 1 with
 |false=>rw[hk]at h;cases h
 |true=>
  rw[hk]at h;cases k with
  |one c=>
   cases c with
   |i kd n=>
    cases hs:sameKind kd .i64 with
    |false=>
     have h0:aN (sameKind kd .i64) "lookup - key" (aG (fq n l) (bO H ok z false) λv=>bO H ok v true)=.val v H':=h
     rw[hs]at h0;cases h0
    |true=>
     have h0:aN (sameKind kd .i64) "lookup - key" (aG (fq n l) (bO H ok z false) λv=>bO H ok v true)=.val v H':=h
     rw[hs]at h0;have h1:aG (fq n l) (bO H ok z false) (λv=>bO H ok v true)=.val v H':=h0;have goal:(∀h',aG (fq n l) (bO h' ok z false) (λv=>bO h' ok v true)=.val v h')->∀h',aN true "lookup - key" (gW (.one (.i kd n)) (.bad "lookup - key") λkd n=>aN (sameKind kd .i64) "lookup - key" (aG (fq n l) (bO h' ok z false) λv=>bO h' ok v true))=.val v h':=λg h'=>by
      show aN (sameKind kd .i64) "lookup - key" (aG (fq n l) (bO h' ok z false) λv=>bO h' ok v true)=_
      rw[hs];exact g h'
     cases hl:fq n l with
     |none=>rw[hl]at h1 goal;obtain⟨e1,e2⟩:=kS h1;exact⟨e1,goal e2⟩
     |some u=>rw[hl]at h1 goal;obtain⟨e1,e2⟩:=kS h1;exact⟨e1,goal e2⟩
   |b _=>cases h
   |o _=>cases h
  |agg _=>cases h
  |tup _=>cases h
  |any=>cases h
def JS{P:Program}{d:Option Tmp}{t:TypeId}{m k:Operand}{ok:Bool}{ty:TypeId}{pos:String}{af:Array Edge}{g:Option (Nat×Bool)}:EG P ⟨d,.lookup t m k ok,ty,pos,af,g⟩:=by
 intro tm H v H' h;have e:∀h,(bf P ⟨d,.lookup t m k ok,ty,pos,af,g⟩).run tm h=(ndF (kg P t) "lookup - type" λp=>ndF (aW P p.2) "lookup - zero" λz=>.mk λtm h=>bR P h p.1 (ofValue z) (ev tm m) (ev tm k) ok).run tm h:=λh=>rfl
 rw[e]at h;cases hm:kg P t with
 |none=>rw[hm]at h;cases h
 |some p=>
  cases hz:aW P p.2 with
  |none=>
   have h0:(ndF (kg P t) "lookup - type" λp=>ndF (aW P p.2) "lookup - zero" λz=>.mk λtm h=>bR P h p.1 (ofValue z) (ev tm m) (ev tm k) ok).run tm H=.bad "lookup - zero" := by
    rw[hm];show(ndF (aW P p.2) "lookup - zero" λz=>.mk λtm h=>bR P h p.1 (ofValue z) (ev tm m) (ev tm k) ok).run tm H=_
    rw[hz];rfl
   rw[h0]at h;cases h
  |some z=>
   have e2:∀h,(ndF (kg P t) "lookup - type" λp=>ndF (aW P p.2) "lookup - zero" λz=>.mk λtm h=>bR P h p.1 (ofValue z) (ev tm m) (ev tm k) ok).run tm h=bR P h p.1 (ofValue z) (ev tm m) (ev tm k) ok:=λh=>by
    rw[hm];show(ndF (aW P p.2) "lookup - zero" λz=>.mk λtm h=>bR P h p.1 (ofValue z) (ev tm m) (ev tm k) ok).run tm h=_
    rw[hz];rfl
   rw[e2]at h;have key:∀h,bR P h p.1 (ofValue z) (ev tm m) (ev tm k) ok=.val v h->(bf P ⟨d,.lookup t m k ok,ty,pos,af,g⟩).run tm h=.val v h:=λh hh=>by rw[e,e2];exact hh
   unfold bR at h;split at h
   ·rename_i hx
    cases hk:jw P true p.1 (ev tm k)with
    |none=>rw[hk]at h;cases h
    |some u=>rw[hk]at h;obtain⟨e1,e3⟩:=kS h;refine⟨e1,λh' _=>key h' ?_⟩;unfold bR;rw[hx];show nd (jw P true p.1 (ev tm k)) _ _=_;rw[hk];exact e3 h'
   ·rename_i id hx
    split at h
    ·rename_i es c hg
     cases hk:jw P es.isEmpty p.1 (ev tm k)with
     |none=>rw[hk]at h;cases h
     |some u=>
      rw[hk]at h;have sub:∀h',Agr ⟨d,.lookup t m k ok,ty,pos,af,g⟩ tm H h'->bR P h' p.1 (ofValue z) (ev tm m) (ev tm k) ok=(match mI P p.1 (ev tm k) es with|some (some e)=>bO h' ok e.val true|some none=>bO h' ok (ofValue z) false|none=>.bad "lookup - keys"):=λh' ha=>by have hid:h'.get id=some (.oth (.map es c)):=(ha.2 m (by simp[fH]) id (by rw[hx];exact List.mem_singleton.2 rfl)).trans hg;unfold bR;rw[hx];simp only[hid,hk];rfl
      have h2:(match mI P p.1 (ev tm k) es with|some (some e)=>bO H ok e.val true|some none=>bO H ok (ofValue z) false|none=>.bad "lookup - keys")=.val v H':=h
      cases hf:mI P p.1 (ev tm k) es with
      |none=>rw[hf]at h2;cases h2
      |some r=>
       cases r with
       |none=>rw[hf]at h2;obtain⟨e1,e3⟩:=kS h2;exact⟨e1,λh' ha=>key h' (by rw[sub h' ha,hf];exact e3 h')⟩
       |some en=>rw[hf]at h2;obtain⟨e1,e3⟩:=kS h2;exact⟨e1,λh' ha=>key h' (by rw[sub h' ha,hf];exact e3 h')⟩
    ·rename_i l hg
     have sub:∀h',Agr ⟨d,.lookup t m k ok,ty,pos,af,g⟩ tm H h'->bR P h' p.1 (ofValue z) (ev tm m) (ev tm k) ok=rS P h' p.1 (ofValue z) (ev tm k) ok l:=λh' ha=>by have hid:h'.get id=some (.oth (.fmap l)):=(ha.2 m (by simp[fH]) id (by rw[hx];exact List.mem_singleton.2 rfl)).trans hg;unfold bR;rw[hx];simp only[hid]
     obtain⟨e1,e3⟩:=My h;exact⟨e1,λh' ha=>key h' (by rw[sub h' ha];exact e3 h')⟩
    cases h
   cases h
def FD{P:Program}{o:Oper}(hk:opK o=2):EG P o:=by
 obtain⟨dst,op,type,pos,after,guard⟩:=o;cases op with
 |load t x=>exact Rt
 |lookup t m k ok=>exact JS
 |call c=>
  obtain⟨ce,as,ts⟩:=c;have X3:=hk;unfold opK at X3;split at X3<;>first|exact absurd X3 aU|skip
  ·rename_i h;cases h
  ·rename_i h;cases h
  ·rename_i h;cases h;exact Vq
  ·rename_i h;cases h;exact yF (.inl rfl)
  rename_i h;cases h;exact yF (.inr rfl)
 |_=>cases hk
def Ym(P:Program)(o:Oper):Prop:=∀tm H v H',(bf P o).run tm H=.val v H' ->
 (H'=H/\∀h,Agr o tm H h->(bf P o).run tm h=.val v h) \/
 (∃x,H'=H.new x/\∀h,Agr o tm H h->(bf P o).run tm h=.val v (h.new x)) \/
 (∃id x k,H'=H.mod id x/\H.get id=some k/\(∃y∈fH o,id∈(ev tm y).ids)/\∀h,Agr o tm H h->(bf P o).run tm h=.val v (h.mod id x))
def Ss{P:Program}{d:Option Tmp}{t:TypeId}{a x:Operand}{ty:TypeId}{pos:String}{af:Array Edge}{g:Option (Nat×Bool)}:Ym P ⟨d,.store t a x,ty,pos,af,g⟩:=by
 intro tm H v H' h;have hx:∃id gn off lim,ev tm a=.one (.o (.ptr id gn off lim)):=by
  cases ht:cM P t with
  |none=>
   have e:(bf P ⟨d,.store t a x,ty,pos,af,g⟩).run tm H=.bad "store - type" := by show(ndF (cM P t) _ _).run tm H=_;rw[ht];rfl
   rw[e]at h;cases h
  |some p=>
   rw[Lc t a x ht]at h;unfold lR at h;cases hv:ev tm a with
   |one c=>cases c with
    |o q=>cases q<;>first|exact⟨_,_,_,_,rfl⟩|(rw[hv]at h;cases h)
    |b _=>rw[hv]at h;cases h
    |i _ _=>rw[hv]at h;cases h
   |agg _=>rw[hv]at h;cases h
   |tup _=>rw[hv]at h;cases h
   |any=>rw[hv]at h;cases h
 obtain⟨id,gn,off,lim,hx⟩:=hx;obtain⟨o,e1,⟨k,e2⟩,h3⟩:=Su hx h;have U2:id∈(ev tm a).ids:=by rw[hx];exact List.mem_singleton.2 rfl
 exact .inr (.inr ⟨id,o,k,e1,e2,⟨a,by simp[fH],U2⟩,λh hk=>h3 h (hk.2 a (by simp[fH]) id U2)⟩)
def Nq{P:Program}{d:Option Tmp}{t:TypeId}{m k x:Operand}{ty:TypeId}{pos:String}{af:Array Edge}{g:Option (Nat×Bool)}:Ym P ⟨d,.mapUpdate t m k x,ty,pos,af,g⟩:=by
 intro tm H v H' h;have e:∀h,(bf P ⟨d,.mapUpdate t m k x,ty,pos,af,g⟩).run tm h=(ndF (kg P t) "mapUpdate - type" λp=>.mk λtm h=>bE P h p.1 (ev tm m) (ev tm k) (ev tm x)).run tm h:=λh=>rfl
 rw[e]at h;cases hm:kg P t with
 |none=>rw[hm]at h;cases h
 |some p=>
  rw[hm]at h;have h1:bE P H p.1 (ev tm m) (ev tm k) (ev tm x)=.val v H':=h;clear h;have key:∀{h:Hp}{r:ah},bE P h p.1 (ev tm m) (ev tm k) (ev tm x)=r->(bf P ⟨d,.mapUpdate t m k x,ty,pos,af,g⟩).run tm h=r:=λ{h r}hh=>by rw[e,hm];exact hh
  unfold bE at h1;split at h1
  ·rename_i id hx
   split at h1
   ·rename_i es c hg
    have U2:id∈(ev tm m).ids:=by rw[hx];exact List.mem_singleton.2 rfl
    have sub:∀h',Agr ⟨d,.mapUpdate t m k x,ty,pos,af,g⟩ tm H h'->bE P h' p.1 (ev tm m) (ev tm k) (ev tm x)=(nd (jw P false p.1 (ev tm k)) "mapUpdate - key" λ_=>aN (both (ev tm k).cE (ev tm x).cE) "mapUpdate - tuple" <| nd (se P p.1 (ev tm k) (ev tm x) es) "mapUpdate - keys" λr=>ifE r.1 (.val aQ (h'.mod id (.oth (.map r.2 c)))) (.val aQ (h'.mod id (.oth (.map (es++[⟨ev tm k,ev tm x,c⟩]) (Nat.add c 1)))))):=λh' ha=>by have hid:h'.get id=some (.oth (.map es c)):=(ha.2 m (by simp[fH]) id U2).trans hg;unfold bE;rw[hx];simp only[hid]
    cases hk:jw P false p.1 (ev tm k)with
    |none=>rw[hk]at h1;cases h1
    |some u=>
     rw[hk]at h1;cases hn:both (ev tm k).cE (ev tm x).cE with
     |false=>
      have h2:aN (both (ev tm k).cE (ev tm x).cE) "mapUpdate - tuple" _=_:=h1
      rw[hn]at h2;cases h2
     |true=>
      have h2:aN (both (ev tm k).cE (ev tm x).cE) "mapUpdate - tuple" _=_:=h1
      rw[hn]at h2;cases hp:se P p.1 (ev tm k) (ev tm x) es with
      |none=>
       have h3:nd (se P p.1 (ev tm k) (ev tm x) es) "mapUpdate - keys" _=_:=h2
       rw[hp]at h3;cases h3
      |some r=>
       have h3:nd (se P p.1 (ev tm k) (ev tm x) es) "mapUpdate - keys" _=_:=h2
       rw[hp]at h3;have sub2:∀h',Agr ⟨d,.mapUpdate t m k x,ty,pos,af,g⟩ tm H h'->bE P h' p.1 (ev tm m) (ev tm k) (ev tm x)=ifE r.1 (.val aQ (h'.mod id (.oth (.map r.2 c)))) (.val aQ (h'.mod id (.oth (.map (es++[⟨ev tm k,ev tm x,c⟩]) (Nat.add c 1))))):=λh' ha=>by rw[sub h' ha,hk];show aN (both (ev tm k).cE (ev tm x).cE) _ _=_;rw[hn];show nd (se P p.1 (ev tm k) (ev tm x) es) _ _=_;rw[hp];rfl
       obtain⟨rb,rl⟩:=r;cases rb with
       |true=>
        have h4:ah.val aQ (H.mod id (.oth (.map rl c)))=.val v H':=h3;injection h4 with e1 e2
        exact .inr (.inr ⟨id,_,_,e2.symm,hg,⟨m,by simp[fH],U2⟩,λh' ha=>key (by rw[sub2 h' ha,<-e1];rfl)⟩)
       |false=>
        have h4:ah.val aQ (H.mod id (.oth (.map (es++[⟨ev tm k,ev tm x,c⟩]) (Nat.add c 1))))=.val v H':=h3;injection h4 with e1 e2
        exact .inr (.inr ⟨id,_,_,e2.symm,hg,⟨m,by simp[fH],U2⟩,λh' ha=>key (by rw[sub2 h' ha,<-e1];rfl)⟩)
   cases h1
  cases h1
def aa1{id g off len sz:Nat}:(AV.one (.o (.sl id g off len sz))).ids=[id]:=rfl
def Sq{H h:Hp}{sz:Nat}{x:AV}(hk:∀id∈x.ids,h.get id=H.get id):lO h sz x=lO H sz x:=by
 unfold lO;split
 ·rename_i id g off len sz'
  have:iS h id g off (Nat.mul len sz) (Nat.mul len sz)=iS H id g off (Nat.mul len sz) (Nat.mul len sz):=by unfold iS;rw[hk id (by rw[aa1];exact List.mem_singleton.2 rfl)]
  rw[this]
 ·rfl
 rfl
def LK{P:Program}{d:Option Tmp}{s x:Operand}{t t2:TypeId}{ty:TypeId}{pos:String}{af:Array Edge}{g:Option (Nat×Bool)}:Ym P ⟨d,.call ⟨.builtin .append,⟨[s,x]⟩,⟨[t,t2]⟩⟩,ty,pos,af,g⟩:=by
 intro tm H v H' h;have e:∀h,(bf P ⟨d,.call ⟨.builtin .append,⟨[s,x]⟩,⟨[t,t2]⟩⟩,ty,pos,af,g⟩).run tm h=(Eng.ifE (Nat.beq t t2) (.mk λtm h=>bM P h t (ev tm s) (ev tm x)) (oH "append - types"):SF).run tm h:=λh=>rfl
 rw[e]at h;cases hb:Nat.beq t t2 with
 |false=>rw[hb]at h;cases h
 |true=>
  rw[hb]at h;have h1:bM P H t (ev tm s) (ev tm x)=.val v H':=h;have key:∀{h:Hp}{r:ah},bM P h t (ev tm s) (ev tm x)=r->(bf P ⟨d,.call ⟨.builtin .append,⟨[s,x]⟩,⟨[t,t2]⟩⟩,ty,pos,af,g⟩).run tm h=r:=λ{h r}hh=>by rw[e,hb];exact hh
  unfold bM at h1;cases h2:cG P t with
  |none=>rw[h2]at h1;cases h1
  |some es=>
  rw[h2]at h1;cases h3:dB P es.1 with
  |none=>have:(ah.bad "append - bytes")=.val v H':=by rw[<-h1];simp only[nd,h3]
         cases this
  |some by_=>
  cases h4:aW P es.1 with
  |none=>have:(ah.bad "append - zero")=.val v H':=by rw[<-h1];simp only[nd,h3,h4]
         cases this
  |some z=>
  cases h5:both (!Nat.beq es.2 0) (Nat.beq (cA (ofValue z).cells) es.2)with
  |false=>have:(ah.bad "append - size 0")=.val v H':=by rw[<-h1];simp only[nd,h3,h4,h5,aN]
          cases this
  |true=>
  cases h6:lO H es.2 (ev tm x)with
  |none=>have:(ah.bad "append - what is appended")=.val v H':=by rw[<-h1];simp only[nd,h3,h4,h5,aN,h6]
         cases this
  |some nc=>
  have h7:fC H es.1 es.2 by_ nc.1 nc.2 (ev tm s)=.val v H':=by rw[<-h1];simp only[nd,h3,h4,h5,aN,h6]
  have key2:∀{h:Hp}{r:ah},Agr ⟨d,.call ⟨.builtin .append,⟨[s,x]⟩,⟨[t,t2]⟩⟩,ty,pos,af,g⟩ tm H h->fC h es.1 es.2 by_ nc.1 nc.2 (ev tm s)=r->(bf P ⟨d,.call ⟨.builtin .append,⟨[s,x]⟩,⟨[t,t2]⟩⟩,ty,pos,af,g⟩).run tm h=r:=λ{h r}ha hh=>by refine key ?_;have e6:=(Sq (sz:=es.2) λid hid=>ha.2 x (by simp[fH]) id hid).trans h6;unfold bM;rw[h2];simp only[nd,h3,h4,h5,aN,e6];exact hh
  unfold fC at h7;split at h7
  ·rename_i hs
   cases h8:Nat.beq nc.1 0 with
   |true=>
    rw[h8]at h7;injection h7 with e1 e2
    refine .inl ⟨e2.symm,λh ha=>key2 ha ?_⟩;unfold fC;rw[hs]at e1 |-;simp only[h8];rw[<-e1];rfl
   |false=>
    rw[h8]at h7;cases h9:both (Nat.ble nc.1 140737488355328) (Nat.ble (Nat.mul nc.1 by_) 140737488355328)with
    |false=>have:(ah.bad "append - too much")=.val v H':=by rw[<-h7];simp only[Eng.ifE,aN,h9]
            cases this
    |true=>
     have h10:(ah.val (.one (.o (.sl H.nx 0 0 nc.1 es.2))) (H.new (.arr nc.2 es.1 0 0)))=.val v H':=by rw[<-h7];simp only[Eng.ifE,aN,h9]
     injection h10 with e1 e2
     refine .inr (.inl ⟨_,e2.symm,λh ha=>key2 ha ?_⟩);unfold fC;rw[hs];simp only[h8,Eng.ifE,aN,h9,ha.1];rw[<-e1]
  ·rename_i id g2 off len sz' hs
   have hid:id∈(ev tm s).ids:=by rw[hs];exact List.mem_singleton.2 rfl
   have hop:s∈fH ⟨d,.call ⟨.builtin .append,⟨[s,x]⟩,⟨[t,t2]⟩⟩,ty,pos,af,g⟩:=by simp[fH]
   cases hg:H.get id with
   |none=>rw[hg]at h7;cases h7
   |some ob=>
    cases ob with
    |oth q=>rw[hg]at h7;cases h7
    |ro q=>rw[hg]at h7;cases h7
    |arr cells e' lo gen=>
     rw[hg]at h7;have key3:∀{h:Hp}{r:ah},Agr ⟨d,.call ⟨.builtin .append,⟨[s,x]⟩,⟨[t,t2]⟩⟩,ty,pos,af,g⟩ tm H h->(aN (both (Nat.beq sz' es.2) (both (Nat.beq e' es.1) (both (Nat.ble lo g2) (both (Nat.ble g2 gen) (both (Nat.ble (Nat.add off (Nat.mul len es.2)) (cA cells))
       (both (Nat.ble (Nat.add len nc.1) 140737488355328) (Nat.ble (Nat.mul (Nat.add len nc.1) by_) 140737488355328))))))) "append - stale or too much"
      (Eng.ifE (Nat.beq nc.1 0) (.val (.one (.o (.sl id g2 off len sz'))) h)
       (Eng.ifE (both (Nat.beq g2 gen) (both (Nat.beq off 0) (Nat.beq (Nat.mul len es.2) (cA cells))))
        (.val (.one (.o (.sl id (Nat.add gen 1) 0 (Nat.add len nc.1) es.2))) (h.mod id (.arr (qu cells nc.2) es.1 lo (Nat.add gen 1))))
        (.val (.one (.o (.sl id (Nat.add gen 1) 0 (Nat.add len nc.1) es.2))) (h.mod id (.arr (qu (cut cells off (Nat.mul len es.2)) nc.2) es.1 (Nat.add gen 1) (Nat.add gen 1)))))))=r->(bf P ⟨d,.call ⟨.builtin .append,⟨[s,x]⟩,⟨[t,t2]⟩⟩,ty,pos,af,g⟩).run tm h=r:=λ{h r}ha hh=>by
      refine key2 ha ?_;unfold fC;rw[hs];simp only[qN,ha.2 s hop id hid,hg];exact hh
     have h8:(aN (both (Nat.beq sz' es.2) (both (Nat.beq e' es.1) (both (Nat.ble lo g2) (both (Nat.ble g2 gen) (both (Nat.ble (Nat.add off (Nat.mul len es.2)) (cA cells))
       (both (Nat.ble (Nat.add len nc.1) 140737488355328) (Nat.ble (Nat.mul (Nat.add len nc.1) by_) 140737488355328))))))) "append - stale or too much"
      (Eng.ifE (Nat.beq nc.1 0) (.val (.one (.o (.sl id g2 off len sz'))) H)
       (Eng.ifE (both (Nat.beq g2 gen) (both (Nat.beq off 0) (Nat.beq (Nat.mul len es.2) (cA cells))))
        (.val (.one (.o (.sl id (Nat.add gen 1) 0 (Nat.add len nc.1) es.2))) (H.mod id (.arr (qu cells nc.2) es.1 lo (Nat.add gen 1))))
        (.val (.one (.o (.sl id (Nat.add gen 1) 0 (Nat.add len nc.1) es.2))) (H.mod id (.arr (qu (cut cells off (Nat.mul len es.2)) nc.2) es.1 (Nat.add gen 1) (Nat.add gen 1)))))))=.val v H':=by
      rw[<-h7,hs];rfl
     cases hc:both (Nat.beq sz' es.2) (both (Nat.beq e' es.1) (both (Nat.ble lo g2) (both (Nat.ble g2 gen) (both (Nat.ble (Nat.add off (Nat.mul len es.2)) (cA cells)) (both (Nat.ble (Nat.add len nc.1) 140737488355328) (Nat.ble (Nat.mul (Nat.add len nc.1) by_) 140737488355328))))))with
     |false=>rw[hc]at h8;cases h8
     |true=>
      rw[hc]at h8;cases hn:Nat.beq nc.1 0 with
      |true=>
       rw[hn]at h8;injection h8 with e1 e2
       refine .inl ⟨e2.symm,λh ha=>key3 ha ?_⟩;rw[hc,hn,<-e1];rfl
      |false=>
       rw[hn]at h8;cases ht:both (Nat.beq g2 gen) (both (Nat.beq off 0) (Nat.beq (Nat.mul len es.2) (cA cells)))with
       |true=>
        rw[ht]at h8;injection h8 with e1 e2
        refine .inr (.inr ⟨_,_,_,e2.symm,hg,⟨s,hop,hid⟩,λh ha=>key3 ha ?_⟩);rw[hc,hn,ht,<-e1];rfl
       |false=>
        rw[ht]at h8;injection h8 with e1 e2
        refine .inr (.inr ⟨_,_,_,e2.symm,hg,⟨s,hop,hid⟩,λh ha=>key3 ha ?_⟩);rw[hc,hn,ht,<-e1];rfl
  cases h7
def ltV(v:AV)(n:Nat):Prop:=∀id∈v.ids,id<n
def LTo(o:Oper)(A:ag)(H:Hp):Prop:=
 match o.op with
 |.load _ x=>ltV (ev A.tm x) H.nx
 |.lookup _ x _ _=>ltV (ev A.tm x) H.nx
 |.mapUpdate _ x _ _=>ltV (ev A.tm x) H.nx
 |.store _ a _=>ltV (ev A.tm a) H.nx
 |.call ⟨.builtin .len,⟨[x]⟩,_⟩=>ltV (ev A.tm x) H.nx
 |.call ⟨.builtin .append,⟨[s,x]⟩,_⟩=>ltV (ev A.tm s) H.nx/\ltV (ev A.tm x) H.nx
 |_=>True
def LTo.mem{o:Oper}{A:ag}{H:Hp}(h:LTo o A H){x:Operand}(hx:x∈fH o){id:Nat}(hid:id∈(ev A.tm x).ids):id<H.nx:=by
 obtain⟨dst,op,type,pos,after,guard⟩:=o;unfold fH at hx;split at hx
 ·rename_i hh;cases hh;simp at hx;subst hx;exact h id hid
 ·rename_i hh;cases hh;simp at hx;subst hx;exact h id hid
 ·rename_i hh;cases hh;simp at hx;subst hx;exact h id hid
 ·rename_i hh;cases hh;simp at hx;subst hx;exact h id hid
 ·rename_i hh;cases hh;simp at hx;subst hx;exact h id hid
 ·rename_i hh;cases hh;simp at hx
  rcases hx with rfl|rfl
  ·exact h.1 id hid
  exact h.2 id hid
 cases hx
def CS(st:Bool)(E:Env)(H:Hp)(n:ah)(next:AV->Hp->Prop):Prop:=
 ∀lg,N1 E ⟨H.t,H.nx,lg⟩ n λv h'=>(st=true->Gr ⟨H.t,H.nx,lg⟩ h')/\∀lg',(∀X,Fr X ⟨H.t,H.nx,lg⟩ h'->Fr X H ⟨h'.t,h'.nx,lg'⟩)->next v ⟨h'.t,h'.nx,lg'⟩
def CS.cn{st:Bool}{E:Env}{H:Hp}{n:ah}{next:AV->Hp->Prop}(h:CS st E H n next):CN E H n next:=λlg=>(h lg).mono λ_ _ h=>h.2
def WE(st:Bool)(E:Env)(A:ag)(d:Option Tmp)(next:ag->Hp->Prop)(H:Hp)(n:ah):Prop:=
 match n with
 |.enter f args=>CS st E H (.enter f args) λv H'=>next (cU A d v) H'
 |.round id args=>CS st E H (.round id args) λv H'=>next (cU A d v) H'
 |_=>False
def IsEn:ah->Prop
 |.enter _ _=>True
 |.round _ _=>True
 |_=>False
def SK(st:Bool)(E:Env)(o:Oper)(A:ag)(H:Hp)(next:ag->Hp->Prop):Prop:=
 match o.op with
 |.call ⟨.value _,_,_⟩=>WE st E A o.dst next H ((bf E.P o).run A.tm H)
 |_=>LTo o A H/\gY (λv H'=>next (cU A o.dst v) H') ((bf E.P o).run A.tm H)
def SU(st:Bool)(E:Env)(o:Oper)(A:ag)(H:Hp)(next:ag->Hp->Prop)(g:GW):Prop:=
 match g with
 |.yes=>SK st E o A H next
 |.no=>next (cU A o.dst aQ) H
 |.lost=>False
def SO(st:Bool)(E:Env)(ops:List Oper)(Q:ag->Hp->Prop):List Oper->ag->Hp->Prop
 |[],A,H=>Q A H
 |o::l,A,H=>aZ o.dst A.nt=true/\SU st E o A H (SO st E ops Q l) (gw (gOf ops o.guard) A.tm)
def fA(before:List Nat)(did:List Did):Prop:=∀u∈did,∃k,before[u.idx]?=some k/\k≠0/\(k=2->u.wr=[]/\u.c0=u.c1)
def fA.more{before:List Nat}{did:List Did}(h:fA before did)(k:Nat):fA (before++[k]) did:=λu hu=>by
 obtain⟨k',h1,h2⟩:=h u hu;refine⟨k',?_,h2⟩;have B0:u.idx<before.length:=by
  rcases cL u.idx before.length with h|h
  ·exact h
  rw[iY h]at h1;cases h1
 rw[iw B0];exact h1
def fA.cons{before:List Nat}{did:List Did}(h:fA before did){k:Nat}{u:Did}(hi:u.idx=before.length)(hk:k≠0)(h2:k=2->u.wr=[]/\u.c0=u.c1):fA (before++[k]) (u::did):=λv hv=>by
 rcases List.mem_cons.1 hv with rfl|hv
 ·exact⟨k,by rw[hi];simp,hk,h2⟩
 exact h.more k v hv
def fA.pair{before:List Nat}{did:List Did}(h:fA before did){k m:Nat}(hs:dd k m 0 before=true){u:Did}(hu:u∈bk m did):∃ku,ku≠0/\(ku=2->u.wr=[]/\u.c0=u.c1)/\MI k ku=true:=by
 obtain⟨h1,h2⟩:=dJ.1 hu;obtain⟨ku,h3,h4,h5⟩:=h u h1;refine⟨ku,h4,h5,?_⟩;rcases yS hs u.idx ku h3 with h|h
 ·rw[Nat.zero_add,h2]at h;cases h
 exact h
def fA.none{before:List Nat}{did:List Did}(h:fA before did){m:Nat}(hs:dd 3 m 0 before=true):bk m did=[]:=by rw[xc];intro u hu;obtain⟨ku,h1,_,h2⟩:=h.pair hs hu;exact h1 (aO h2)
def fA.look{before:List Nat}{did:List Did}(h:fA before did){m:Nat}(hs:dd 2 m 0 before=true):∀u∈bk m did,∀i,de u i=false:=by
 intro u hu i;obtain⟨ku,h1,h3,h2⟩:=h.pair hs hu;have s_:(Nat.beq ku 0||Nat.beq ku 2)=true:=h2;rw[iZ]at s_;rcases s_ with h|h
 ·exact absurd (aO h) h1
 obtain⟨a,b⟩:=h3 (aO h);unfold de;rw[a,b];show(false||_)=false;rw[Bool.false_or,HQ];rcases cL i u.c1 with h|h
 ·left;cases hb:Nat.ble u.c1 i with
  |false=>rfl
  |true=>have:=bA hb;omega
 right;cases hb:Nat.blt i u.c1 with
 |false=>rfl
 |true=>have:i<u.c1:=bA hb;omega
def fA.aal{before:List Nat}{did:List Did}(h:fA before did){m:Nat}(hs:dd 6 m 0 before=true):∀u∈bk m did,∀i,de u i=false:=by
 refine h.look (m:=m) ?_;have key:∀(l:List Nat)(i:Nat),dd 6 m i l=true->dd 2 m i l=true:=by
  intro l;induction l with
  |nil=>intro i _;rfl
  |cons x l ih=>intro i h;unfold dd at h |-;rw[aV]at h |-;exact⟨h.1,ih _ h.2⟩
 exact key _ _ hs
def rT{o:Oper}{k:Nat}(hk:opK o=k)(h4:k<4):cx o=if k<2 then 0 else if eF o=true then 2 else 1:=by
 obtain⟨dst,op,type,pos,after,guard⟩:=o;cases op with
 |call c=>obtain⟨ce,as,ts⟩:=c;unfold opK at hk;split at hk<;>first|(subst hk;rename_i h;cases h;rfl)|(subst hk;exact absurd h4 aU)|(rename_i h;cases h)
 |_=>first|(subst hk;rfl)|(subst hk;exact absurd (show(4:Nat)<4 from h4) aU)
def Eu{o:Oper}(hk:opK o=3)(hc:eF o=true):∃d f as ts ty pos af g,o=⟨d,.call ⟨.value f,as,ts⟩,ty,pos,af,g⟩:=by
 obtain⟨dst,op,type,pos,after,guard⟩:=o;cases op with
 |call c=>
  obtain⟨ce,as,ts⟩:=c;cases ce with
  |value f=>exact⟨_,_,_,_,_,_,_,_,rfl⟩
  |invoke _ _=>cases hc
  |builtin _=>cases hc
 |_=>cases hc
def TU{P:Program}{o:Oper}(hk:opK o=3)(hc:eF o=false):Ym P o:=by
 obtain⟨dst,op,type,pos,after,guard⟩:=o;cases op with
 |store t a x=>exact Ss
 |mapUpdate t m k x=>exact Nq
 |call c=>
  obtain⟨ce,as,ts⟩:=c;unfold opK at hk;split at hk<;>first|exact absurd hk aU|skip
  ·rename_i h;cases h
  ·rename_i h;cases h
  ·rename_i h;cases h;cases hc
  rename_i h;cases h;exact LK
 |_=>cases hk
def Hp.ext'{H H':Hp}(h1:H.t=H'.t)(h2:H.nx=H'.nx)(h3:H.log=H'.log):H=H':=by cases H;cases H';cases h1;cases h2;cases h3;rfl
section
variable{st:Bool}{E:Env}{A:ag}{H:Hp}{Q:ag->Hp->Prop}{g:Option (Option Tmp×Bool)}{l:List OF}{j m:Nat}{ms:List Nat}{did:List Did}{before:List Nat}
def WE.inv{d:Option Tmp}{next:ag->Hp->Prop}{n:ah}(h:WE st E A d next H n):IsEn n/\CS st E H n λv H'=>next (cU A d v) H':=by
 cases n with
 |enter f as=>exact⟨trivial,h⟩
 |val v H'=>exact h.elim
 |tN l=>exact h.elim
 |round id args=>exact⟨trivial,h⟩
 |bad s=>exact h.elim
def gY.inv{P:AV->Hp->Prop}{n:ah}(h:gY P n):∃v H',n=.val v H'/\P v H':=by
 cases n with
 |val v H'=>exact⟨v,H',rfl,h⟩
 |enter f as=>exact h.elim
 |tN l=>exact h.elim
 |round id args=>exact h.elim
 |bad s=>exact h.elim
def SK.val{o:Oper}{next:ag->Hp->Prop}(hc:eF o=false)(h:SK st E o A H next):LTo o A H/\∃v H',(bf E.P o).run A.tm H=.val v H'/\next (cU A o.dst v) H':=by
 obtain⟨dst,op,type,pos,after,guard⟩:=o;have key:LTo ⟨dst,op,type,pos,after,guard⟩ A H/\gY (λv H'=>next (cU A dst v) H') ((bf E.P ⟨dst,op,type,pos,after,guard⟩).run A.tm H):=by
  cases op with
  |call c=>
   obtain⟨ce,as,ts⟩:=c;cases ce with
   |value f=>cases hc
   |invoke _ _=>exact h
   |builtin _=>exact h
  |_=>exact h
 exact⟨key.1,key.2.inv⟩
def FU{o:Oper}(hk:cx o=1)(hl:LTo o A H){us:List Did}(hu:∀u∈us,∀i,de u i=false):Agr o A.tm H ⟨bu H.t H.nx A.tm o us,H.nx,[]⟩:=
 ⟨rfl,λx hx id hid=>Ld hk (BM hx) hid (hl.mem hx hid) λu hm=>hu u hm id⟩
def SK.d1{o:Oper}(hj:before.length=j)(N2:fA before did)(h4:opK o<4)(hs:dd (plK st o) m 0 before=true)(hg:∀y n:R (ag×Hp),cJ A.tm g y n=y)(hd:aZ o.dst A.nt=true)
  (h:SK st E o A H λA H=>∀did',fA (before++[opK o]) did'->D1 E l (j+1) ms did' A H Q):D1 E (⟨g,o.dst,bf E.P o,o⟩::l) j (m::ms) did A H Q:=by
 have G9:eF o=false->plK st o=opK o:=λh=>by unfold plK;rw[h,Bool.and_false];rfl
 cases R0:eF o with
 |true=>
  have hk:opK o=3:=by
   obtain⟨dst,op,type,pos,after,guard⟩:=o;cases op with
   |call c=>
    obtain⟨ce,as,ts⟩:=c;cases ce with
    |value f=>rfl
    |invoke _ _=>cases R0
    |builtin _=>cases R0
   |_=>cases R0
  obtain⟨d,f,as,ts,ty,pos,af,gd,rfl⟩:=Eu hk R0;have hlk2:cx ⟨d,.call ⟨.value f,as,ts⟩,ty,pos,af,gd⟩=2:=rfl;have hwe:WE st E A d (λA H=>∀did',fA (before++[3]) did'->D1 E l (j+1) ms did' A H Q) H ((bf E.P ⟨d,.call ⟨.value f,as,ts⟩,ty,pos,af,gd⟩).run A.tm H):=h;obtain⟨_,hcn⟩:=WE.inv hwe;have T6:(bk m did).flatMap ia=[]:=by
   rw[xc];intro i hi;obtain⟨u,hu,hiu⟩:=List.mem_flatMap.1 hi;cases st with
   |false=>have u_:dd 3 m 0 before=true:=hs;rw[N2.none u_]at hu;cases hu
   |true=>have u_:dd 6 m 0 before=true:=hs;rw[yD,N2.aal u_ u hu i]at hiu;cases hiu
  have hfree:∀{h':Hp},(st=true->Gr ⟨H.t,H.nx,[]⟩ h')->iH (bk m did) (fk H.t H.nx h'.log)=true:=λ{h'}hg=>by
   cases st with
   |false=>have u_:dd 3 m 0 before=true:=hs;rw[N2.none u_];rfl
   |true=>
    have hwr:fk H.t H.nx h'.log=[]:=by
     obtain⟨lg,e,hl⟩:=(hg rfl).log;rw[xc];intro i hi;obtain⟨a1,a2,_⟩:=mP.1 hi;rw[e,List.append_nil]at a1;rcases hl i a1 with h|h
     ·have h':H.nx<=i:=h;omega
     exact h
    rw[hwr];exact fU _
  have V1:bu H.t H.nx A.tm ⟨d,.call ⟨.value f,as,ts⟩,ty,pos,af,gd⟩ (bk m did)=H.t:=by unfold bu;rw[hlk2];show rf H.t ((bk m did).flatMap ia)=H.t;rw[T6];rfl
  refine D1.cons hg hd V1 ?_;have x_:(bf E.P ⟨d,.call ⟨.value f,as,ts⟩,ty,pos,af,gd⟩).run A.tm ⟨H.t,H.nx,[]⟩=(bf E.P ⟨d,.call ⟨.value f,as,ts⟩,ty,pos,af,gd⟩).run A.tm H:=rfl;rw[x_];refine(hcn []).mono λv h'⟨W0,U1⟩=>⟨hfree W0,?_⟩;rw[hlk2];have e1:eM 2 H h' (bk m did) (fk H.t H.nx h'.log)=h'.t:=by show dh h'.t H.t ((bk m did).flatMap ia)=h'.t;rw[T6];rfl
  rw[e1];refine U1 (fk H.t H.nx h'.log++H.log) (λX hf=>⟨hf.nx,hf.get,fk H.t H.nx h'.log,rfl,λi hi=>?_⟩) _ ?_
  ·obtain⟨a1,a2,_⟩:=mP.1 hi;obtain⟨lg,e,hl⟩:=hf.log;rw[e,List.append_nil]at a1;exact hl i a1
  have e2:note 2 j H.t H h' did (fk H.t H.nx h'.log)=⟨j,H.t,H.nx,h'.nx,fk H.t H.nx h'.log⟩::did:=rfl;rw[e2];exact N2.cons hj.symm aU (λh=>by cases h)
 |false=>
  rw[G9 R0]at hs;generalize hk:opK o=k at h4 hs h;have G4:=rT hk h4;obtain⟨hl,v,H',hn,U1⟩:=SK.val R0 h;rw[R0]at G4;match k,hk,h4,hs,G4 with
  |0,hk,_,hs,G4=>
   rcases Qa hk (P:=E.P) (tm:=A.tm)with⟨v',hp⟩|hp
   ·have e:=(hp H).symm.trans hn;injection e with e1 e2
    subst e1 e2;exact D1.pure hg hd G4 (hp _) (U1 _ (N2.more 0))
   exact absurd hn (hp _ _ _)
  |1,hk,_,hs,G4=>obtain⟨x,e1,e2⟩:=PZ hk (P:=E.P) (tm:=A.tm) _ _ _ hn;subst e1;refine D1.make hg hd G4 (e2 ⟨.leaf,H.nx,[]⟩ rfl) (U1 _ (N2.cons hj.symm aU (λh=>by cases h)))
  |2,hk,_,hs,G4=>obtain⟨e1,e2⟩:=FD hk (P:=E.P) _ _ _ _ hn;subst e1;have hu:=N2.look hs;exact D1.look hg hd G4 (e2 _ (FU G4 hl hu)) λsub _=>U1 _ (N2.cons hj.symm aU (λ_=>⟨rfl,rfl⟩))
  |3,hk,_,hs,G4=>
   have hu:=N2.none hs;have S3:=FU (us:=bk m did) G4 hl (by rw[hu];intro u h;cases h);generalize V1:bu H.t H.nx A.tm o (bk m did)=sub at S3;refine D1.cons hg hd V1 ?_;have hdo:∀u:Did,u.idx=j->fA (before++[3]) (u::did):=λu y7=>N2.cons (y7.trans hj.symm) aU (λh=>by cases h);rcases TU hk R0 (P:=E.P) _ _ _ _ hn with⟨e1,e2⟩|⟨x,e1,e2⟩|⟨id,x,k,e1,ek,⟨y,hy,hyid⟩,e2⟩
   ·rw[e2 _ S3,hu];subst e1;refine N1.val ⟨rfl,?_⟩;rw[G4];have e3:eM 1 H' ⟨sub,H'.nx,[]⟩ [] []=H'.t:=by show dh H'.t sub (dK H'.nx (H'.nx-H'.nx))=H'.t;rw[ga];rfl
    show D1 E l (j+1) ms _ (cU A o.dst v) ⟨eM 1 H' ⟨sub,H'.nx,[]⟩ [] [],H'.nx,[]++H'.log⟩ Q;rw[e3];exact U1 _ (hdo _ rfl)
   ·rw[e2 _ S3,hu];subst e1;refine N1.val ⟨rfl,?_⟩;rw[G4];have e3:eM 1 H (Hp.new ⟨sub,H.nx,[]⟩ x) [] []=H.t.set H.nx x:=by show dh H.t (sub.set H.nx x) (dK H.nx (H.nx+1-H.nx))=_;have:H.nx+1-H.nx=1:=aa;rw[this];show PT.put ((sub.set H.nx x).get H.nx) H.t H.nx=_;rw[PT.fE,ad rfl];rfl
    show D1 E l (j+1) ms _ (cU A o.dst v) ⟨eM 1 H (Hp.new ⟨sub,H.nx,[]⟩ x) [] [],H.nx+1,[]++H.log⟩ Q;rw[e3];exact U1 _ (hdo _ rfl)
   rw[e2 _ S3,hu];subst e1;have hid:id<H.nx:=hl.mem hy hyid;have hwr:fk sub H.nx [id]=[id]:=by show Eng.ifE (Nat.blt id H.nx) (aG (sub.get id) (fk sub H.nx []) λ_=>id::fk sub H.nx []) (fk sub H.nx [])=_;have f1:Nat.blt id H.nx=true:=bU hid;have f2:sub.get id=some k:=(S3.2 y hy id hyid).trans ek;rw[f1,f2];rfl
   refine N1.val ⟨rfl,?_⟩;rw[G4];have e3:eM 1 H (Hp.mod ⟨sub,H.nx,[]⟩ id x) [] [id]=H.t.set id x:=by show dh H.t (sub.set id x) ([id]++dK H.nx (H.nx-H.nx))=_;rw[ga];show PT.put ((sub.set id x).get id) H.t id=_;rw[PT.fE,ad rfl];rfl
   show D1 E l (j+1) ms _ (cU A o.dst v) ⟨eM 1 H (Hp.mod ⟨sub,H.nx,[]⟩ id x) [] (fk sub H.nx [id]),H.nx,fk sub H.nx [id]++H.log⟩ Q;rw[hwr,e3];exact U1 _ (hdo _ rfl)
  |k+4,_,h4,_,_=>omega
end
def SK.mono{st:Bool}{E:Env}{o:Oper}{A:ag}{H:Hp}{next next':ag->Hp->Prop}(h:SK st E o A H next)(hn:∀A H,next A H->next' A H):SK st E o A H next':=by
 cases hc:eF o with
 |false=>
  obtain⟨hl,v,H',h1,h2⟩:=SK.val hc h;obtain⟨dst,op,type,pos,after,guard⟩:=o;have key:LTo ⟨dst,op,type,pos,after,guard⟩ A H/\gY (λv H'=>next' (cU A dst v) H') ((bf E.P ⟨dst,op,type,pos,after,guard⟩).run A.tm H):=⟨hl,by rw[h1];exact hn _ _ h2⟩;cases op with
  |call c=>
   obtain⟨ce,as,ts⟩:=c;cases ce with
   |value f=>cases hc
   |invoke _ _=>exact key
   |builtin _=>exact key
  |_=>exact key
 |true=>
  obtain⟨dst,op,type,pos,after,guard⟩:=o;cases op with
  |call c=>
   obtain⟨ce,as,ts⟩:=c;cases ce with
   |value f=>
    obtain⟨h1,h2⟩:=WE.inv h;show WE st E A dst next' H _;generalize(bf E.P ⟨dst,.call ⟨.value f,as,ts⟩,type,pos,after,guard⟩).run A.tm H=n at h1 h2
    cases n with
    |enter fn args=>exactλlg=>(h2 lg).mono λv h' q=>⟨q.1,λlg' hx=>hn _ _ (q.2 lg' hx)⟩
    |round id args=>exactλlg=>(h2 lg).mono λv h' q=>⟨q.1,λlg' hx=>hn _ _ (q.2 lg' hx)⟩
    |_=>exact h1.elim
   |invoke _ _=>cases hc
   |builtin _=>cases hc
  |_=>cases hc
def SO.d1{st:Bool}{E:Env}{ops:List Oper}{Q:ag->Hp->Prop}:∀{l:List Oper}{j:Nat}{ms:List Nat}{before:List Nat}{did:List Did}{A:ag}{H:Hp},before.length=j->fA before did->Ho st before l ms=true->SO st E ops Q l A H->D1 E (jH E.P ops l) j ms did A H Q
 |[],j,ms,_,_,A,H,_,_,_,h=>D1.nil h
 |o::l,j,[],_,_,A,H,_,_,hs,_=>by cases hs
 |o::l,j,m::ms,before,did,A,H,hj,N2,hs,h=>by
  unfold Ho at hs;rw[aV,aV]at hs;obtain⟨⟨h4,O5⟩,L1⟩:=hs;have h4':opK o<4:=bA h4;obtain⟨hd,hg⟩:=h;have y7:(before++[opK o]).length=j+1:=by simp[hj]
  rcases rI (gOf ops o.guard) A.tm with⟨h1,h2⟩|⟨h1,h2⟩|h1
  ·rw[h1]at hg;exact SK.d1 hj N2 h4' O5 h2 hd (SK.mono hg λA' H' hn did' V'=>SO.d1 y7 V' L1 hn)
  ·rw[h1]at hg;exact D1.skip h2 hd (SO.d1 y7 (N2.more _) L1 hg)
  rw[h1]at hg;exact hg.elim
def R1.sq{st:Bool}{E:Env}{r:Option Nat}{A:ag}{H:Hp}{Q:au->ag->Hp->Prop}{id:Nat}{ops:Array Oper}(hs:sk st ops=true)(h:SO st E ops.toList (λA H=>Q .normal A H) ops.toList A H):R1 E r (.region id ops true) A H Q:=by unfold sk at hs;rw[aV]at hs;exact R1.draw hs.1 (SO.d1 rfl (λu hu=>by cases hu) hs.2 h)
def SO.wo{st:Bool}{E:Env}{ops:List Oper}{Q:ag->Hp->Prop}:∀{l:List Oper}{A:ag}{H:Hp},SO st E ops Q l A H->WO E ops Q l A H
 |[],A,H,h=>h
 |o::l,A,H,⟨hd,hg⟩=>by
  refine⟨hd,?_⟩;rcases rI (gOf ops o.guard) A.tm with⟨h1,_⟩|⟨h1,_⟩|h1
  ·rw[h1]at hg |-;have Q2:SK st E o A H (WO E ops Q l):=SK.mono hg λA' H' hn=>SO.wo hn;show WT E A o.dst (WO E ops Q l) H ((bf E.P o).run A.tm H);cases hc:eF o with
   |false=>obtain⟨_,v,H',h3,h4⟩:=SK.val hc Q2;rw[h3];exact h4
   |true=>
    obtain⟨dst,op,type,pos,after,guard⟩:=o;cases op with
    |call c=>
     obtain⟨ce,as,ts⟩:=c;cases ce with
     |value f=>
      obtain⟨h3,h4⟩:=WE.inv Q2;generalize(bf E.P ⟨dst,.call ⟨.value f,as,ts⟩,type,pos,after,guard⟩).run A.tm H=n at h3 h4 |-
      cases n with
      |enter fn args=>exact CS.cn h4
      |round id args=>exact CS.cn h4
      |_=>exact h3.elim
     |invoke _ _=>cases hc
     |builtin _=>cases hc
    |_=>cases hc
  ·rw[h1]at hg |-;exact SO.wo hg
  rw[h1]at hg;exact hg.elim
def SG(st:Bool)(E:Env)(Q:ag->Hp->Prop):List (Option (Option Tmp×Bool))->List Oper->ag->Hp->Prop
 |_,[],A,H=>Q A H
 |[],_::_,_,_=>False
 |g::gs,o::l,A,H=>aZ o.dst A.nt=true/\SU st E o A H (SG st E Q gs l) (gw g A.tm)
def SU.mono{st:Bool}{E:Env}{o:Oper}{A:ag}{H:Hp}{next next':ag->Hp->Prop}{g:GW}(h:SU st E o A H next g)(hn:∀A H,next A H->next' A H):SU st E o A H next' g:=by
 cases g with
 |yes=>exact SK.mono h hn
 |no=>exact hn _ _ h
 |lost=>exact h.elim
def SG.so{st:Bool}{E:Env}{ops:List Oper}{Q:ag->Hp->Prop}:∀{l:List Oper}{A:ag}{H:Hp},SG st E Q (l.map λo=>gOf ops o.guard) l A H->SO st E ops Q l A H
 |[],_,_,h=>h
 |_::_,_,_,⟨h1,h2⟩=>⟨h1,SU.mono h2 λ_ _ h=>SG.so h⟩
def uh(v:AV)(f:Bool->Prop):Prop:=match v with|.one (.b b)=>f b|_=>False
def IF{b:Bool}{f:Bool->Prop}:uh (.one (.b b)) f=f b:=rfl
section
variable{E:Env}{r:Option Nat}{A:ag}{H:Hp}{Q:au->ag->Hp->Prop}{x y z:Code}
def R1.sj{id:Nat}{ops:Array Oper}(h:∀K:ag->Hp->Prop,(∀A H,R1 E r z A H Q->K A H)->SG false E K (ops.toList.map λo=>gOf ops.toList o.guard) ops.toList A H):R1 E r (.seq (.region id ops false) z) A H Q:=
 R1.seq (R1.reg (SO.wo (SG.so (h _ λ_ _ h=>h))))
def R1.Co{id:Nat}{ops:Array Oper}(hs:sk false ops=true)(h:∀K:ag->Hp->Prop,(∀A H,R1 E r z A H Q->K A H)->SG false E K (ops.toList.map λo=>gOf ops.toList o.guard) ops.toList A H):R1 E r (.seq (.region id ops true) z) A H Q:=
 R1.seq (R1.sq hs (SG.so (h _ λ_ _ h=>h)))
def R1.abo{id:Nat}{ops:Array Oper}(hs:sk true ops=true)(h:∀K:ag->Hp->Prop,(∀A H,R1 E r z A H Q->K A H)->SG true E K (ops.toList.map λo=>gOf ops.toList o.guard) ops.toList A H):R1 E r (.seq (.region id ops true) z) A H Q:=
 R1.seq (R1.sq hs (SG.so (h _ λ_ _ h=>h)))
def R1.ab3{id:Nat}{ops:Array Oper}(hs:sk true ops=true)(h:∀K:ag->Hp->Prop,(∀A H,Q .normal A H->K A H)->SG true E K (ops.toList.map λo=>gOf ops.toList o.guard) ops.toList A H):R1 E r (.region id ops true) A H Q:=
 R1.sq hs (SG.so (h _ λ_ _ h=>h))
def R1.Gn{id:Nat}{ops:Array Oper}(h:∀K:ag->Hp->Prop,(∀A H,Q .normal A H->K A H)->SG false E K (ops.toList.map λo=>gOf ops.toList o.guard) ops.toList A H):R1 E r (.region id ops false) A H Q:=
 R1.reg (SO.wo (SG.so (h _ λ_ _ h=>h)))
def R1.CV{id:Nat}{ops:Array Oper}(hs:sk false ops=true)(h:∀K:ag->Hp->Prop,(∀A H,Q .normal A H->K A H)->SG false E K (ops.toList.map λo=>gOf ops.toList o.guard) ops.toList A H):R1 E r (.region id ops true) A H Q:=
 R1.sq hs (SG.so (h _ λ_ _ h=>h))
def R1.Ue{c:Operand}{b:Bool}(hc:ev A.tm c=.one (.b b))(h1:b=true->R1 E r x A H Q)(h2:b=false->R1 E r y A H Q):R1 E r (.cond c x y) A H Q:=by
 refine R1.cond hc ?_;cases b with
 |true=>exact h1 rfl
 |false=>exact h2 rfl
def R1.Ft{c:Operand}(h:∀Kx Ky:Prop,(R1 E r (.seq x z) A H Q->Kx)->(R1 E r (.seq y z) A H Q->Ky)->uh (ev A.tm c) λb=>if b=true then Kx else Ky):R1 E r (.seq (.cond c x y) z) A H Q:=by
 have h:=h _ _ id id;unfold uh at h;split at h
 ·rename_i b hc
  cases b with
  |true=>exact R1.WD hc (λ_=>h) (λh=>by cases h)
  |false=>exact R1.WD hc (λh=>by cases h) (λ_=>h)
 exact h.elim
def R1.DM{c:Operand}(h:∀Kx Ky:Prop,(R1 E r x A H Q->Kx)->(R1 E r y A H Q->Ky)->uh (ev A.tm c) λb=>if b=true then Kx else Ky):R1 E r (.cond c x y) A H Q:=by
 have h:=h _ _ id id;unfold uh at h;split at h
 ·rename_i b hc
  cases b with
  |true=>exact R1.Ue hc (λ_=>h) (λh=>by cases h)
  |false=>exact R1.Ue hc (λh=>by cases h) (λ_=>h)
 exact h.elim
def iI{c:Prop}[Decidable c]{X Y:Prop}(h1:c->X)(h2:¬c->Y):if c then X else Y:=by
 by_cases h:c
 ·rw[ad h];exact h1 h
 rw[ab h];exact h2 h
def R1.lq(P:ag->Prop)(hp:P A)(h:∀A2,P A2->R1 E r x A2 H Q):R1 E r x A H Q:=h A hp
def R1.gen(P:ag->Hp->Prop)(hp:P A H)(h:∀A2 H2,P A2 H2->R1 E r x A2 H2 Q):R1 E r x A H Q:=h A H hp
end
section
variable{st:Bool}{E:Env}{Q:ag->Hp->Prop}{gs:List (Option (Option Tmp×Bool))}{l:List Oper}{o:Oper}{A:ag}{H:Hp}{next:ag->Hp->Prop}{g:Option (Option Tmp×Bool)}
def SJ:SG st E Q gs [] A H=Q A H:=by cases gs<;>rfl
def NK:SG st E Q (g::gs) (o::l) A H=(aZ o.dst A.nt=true/\SU st E o A H (SG st E Q gs l) (gw g A.tm)):=rfl
def SV:SU st E o A H next .yes=SK st E o A H next:=rfl
def ZY:SU st E o A H next .no=next (cU A o.dst aQ) H:=rfl
def acd{tm:PT AV}:gw none tm=.yes:=rfl
def aag{ops:List Oper}:gOf ops none=none:=rfl
def kU{α:Type}(o:Option α)(f:α->Prop):Prop:=match o with|some a=>f a|none=>False
def EV{α:Type}{a:α}{f:α->Prop}:kU (some a) f=f a:=rfl
def abX(v:AV)(f:Bool->Prop):Prop:=match v with|.one (.b b)=>f b|_=>False
def vN(next:ag->Hp->Prop)(A:ag)(d:Option Tmp)(n:ah):Prop:=gY (λv H'=>next (cU A d v) H') n
def Xv{d:Option Tmp}{v:AV}{H':Hp}:vN next A d (.val v H')=next (cU A d v) H':=rfl
def ldN(next:ag->Hp->Prop)(A:ag)(d:Option Tmp)(H:Hp)(o:Option (Bool×Nat))(v:AV):Prop:=kU o λp=>vN next A d (eu H p.1 p.2 v)
def JI{d:Option Tmp}{a:Bool}{n:Nat}{v:AV}:ldN next A d H (some (a,n)) v=vN next A d (eu H a n v):=rfl
def stN(next:ag->Hp->Prop)(A:ag)(d:Option Tmp)(H:Hp)(o:Option Nat)(a x:AV):Prop:=kU o λn=>vN next A d (lR H n x a)
def Lb{d:Option Tmp}{n:Nat}{a x:AV}:stN next A d H (some n) a x=vN next A d (lR H n x a):=rfl
def faN(next:ag->Hp->Prop)(A:ag)(d:Option Tmp)(H:Hp)(o:Option (Nat×TypeId×Nat))(v:AV):Prop:=kU o λp=>vN next A d (jv H p.1 p.2.2 v)
def Jh{d:Option Tmp}{fo t n:Nat}{v:AV}:faN next A d H (some (fo,t,n)) v=vN next A d (jv H fo n v):=rfl
def iaN(next:ag->Hp->Prop)(A:ag)(d:Option Tmp)(H:Hp)(o:Option (TypeId×Nat))(x i:AV):Prop:=kU o λp=>vN next A d (dz H p.2 x i)
def Ju{d:Option Tmp}{t n:Nat}{x i:AV}:iaN next A d H (some (t,n)) x i=vN next A d (dz H n x i):=rfl
def lnN(next:ag->Hp->Prop)(A:ag)(d:Option Tmp)(H:Hp)(o:Option Nat)(x:AV):Prop:=kU o λk=>vN next A d (eD H k x)
def JP{d:Option Tmp}{k:Nat}{x:AV}:lnN next A d H (some k) x=vN next A d (eD H k x):=rfl
def pkN(next:ag->Hp->Prop)(A:ag)(d:Option Tmp)(H:Hp)(c x y:AV):Prop:=abX c λb=>next (cU A d (if b=true then x else y)) H
def aap{d:Option Tmp}{b:Bool}{x y:AV}:pkN next A d H (.one (.b b)) x y=next (cU A d (if b=true then x else y)) H:=rfl
def WM(H:Hp)(o:Option (TypeId×Nat))(x:AV)(lo hi:Option AV)(alt:ah):ah:=match o with|some p=>eU H p.2 x lo hi alt|none=>alt
def yT{H:Hp}{t n:Nat}{x:AV}{lo hi:Option AV}{alt:ah}:WM H (some (t,n)) x lo hi alt=eU H n x lo hi alt:=rfl
def HH{α:Type}{P:AV->Hp->Prop}{o:Option α}{s:String}{f:α->ah}:gY P (nd o s f)=kU o λa=>gY P (f a):=by cases o<;>rfl
def Nu{P:AV->Hp->Prop}{b:Bool}{s:String}{n:ah}:gY P (aN b s n)=(b=true/\gY P n):=by
 cases b
 ·exact propext ⟨λh=>h.elim,λh=>by cases h.1⟩
 exact propext ⟨λh=>⟨rfl,h⟩,λh=>h.2⟩
def ef{α:Type}{P:AV->Hp->Prop}{o:Option α}{s:String}{f:α->SF}{tm:PT AV}:gY P ((ndF o s f).run tm H)=kU o λa=>gY P ((f a).run tm H):=by cases o<;>rfl
def Pj{id g' off lim n:Nat}:ltV (.one (.o (.ptr id g' off lim))) n=(id<n):=propext ⟨λh=>h id (List.mem_singleton.2 rfl),λh i hi=>by rw[List.mem_singleton.1 hi];exact h⟩
def xB{id g' off len sz n:Nat}:ltV (.one (.o (.sl id g' off len sz))) n=(id<n):=propext ⟨λh=>h id (List.mem_singleton.2 rfl),λh i hi=>by rw[List.mem_singleton.1 hi];exact h⟩
def zy{n:Nat}:ltV (.one (.o .nilS)) n=True:=propext ⟨λ_=>trivial,λ_ i hi=>by cases hi⟩
def Pk{n:Nat}{s:List UInt8}:ltV (.one (.o (.str s))) n=True:=propext ⟨λ_=>trivial,λ_ i hi=>by cases hi⟩
def pD{v:AC}{sz k:Nat}{c:List AC}(h:SlC H v sz k c):ltV (.one v) H.nx:=by
 rcases h.2 with⟨rfl,_⟩|⟨id,g,off,rfl,hid,_⟩
 ·rw[zy];trivial
 rw[xB];exact hid
variable{d:Option Tmp}{ty:TypeId}{pos:String}{af:Array Edge}{gd:Option (Nat×Bool)}
def pQ{p:Prop}:(True/\p)=p:=propext ⟨λh=>h.2,λh=>⟨trivial,h⟩⟩
def FQ{x:Operand}:SK st E ⟨d,.move x,ty,pos,af,gd⟩ A H next=next (cU A d (ev A.tm x)) H:=by cases x<;>exact pQ
def xg{x:Operand}:SK st E ⟨d,.assign x,ty,pos,af,gd⟩ A H next=next (cU A d (ev A.tm x)) H:=by cases x<;>exact pQ
def NO{c x y:Operand}:SK st E ⟨d,.pick c x y,ty,pos,af,gd⟩ A H next=pkN next A d H (ev A.tm c) (ev A.tm x) (ev A.tm y):=by
 refine pQ.trans ?_;show gY _ (gj (ev A.tm c) (.bad "pick") λb=>.val (ifE b (ev A.tm x) (ev A.tm y)) H)=_
 cases ev A.tm c with
 |one q=>cases q with|b b=>cases b<;>rfl|_=>rfl
 |_=>rfl
def Ic{e:TypeId}:SK st E ⟨d,.alloc e,ty,pos,af,gd⟩ A H next=kU ((aW E.P e).map λz=>(ofValue z).cells) λc=>next (cU A d (.one (.o (.ptr H.nx 0 0 c.length)))) (H.new (.arr c e 0 0)):=by
 refine pQ.trans ?_;show gY _ ((ndF (aW E.P e) _ _).run A.tm H)=_;rw[ef];cases aW E.P e with
 |none=>rfl
 |some z=>show next (cU A d (.one (.o (.ptr H.nx 0 0 (cA (ofValue z).cells))))) _=_;rw[bZ];rfl
def SN{e:TypeId}{x:Operand}:SK st E ⟨d,.box e x,ty,pos,af,gd⟩ A H next=((ev A.tm x).cE=true/\next (cU A d (.one (.o (.ptr H.nx 0 0 (ev A.tm x).cells.length)))) (H.new (.arr (ev A.tm x).cells e 0 0))):=by refine pQ.trans ?_;show gY _ (aN (ev A.tm x).cE _ (oe H (ev A.tm x).cells e))=_;rw[Nu];unfold oe;rw[bZ];rfl
def NN{t:TypeId}{x:Operand}:SK st E ⟨d,.load t x,ty,pos,af,gd⟩ A H next=(ltV (ev A.tm x) H.nx/\ldN next A d H (loadT E.P t) (ev A.tm x)):=by show(_/\gY _ ((ndF (loadT E.P t) _ _).run A.tm H))=_;rw[ef];rfl
def Ih{t:TypeId}{a x:Operand}:SK st E ⟨d,.store t a x,ty,pos,af,gd⟩ A H next=(ltV (ev A.tm a) H.nx/\stN next A d H (cM E.P t) (ev A.tm a) (ev A.tm x)):=by show(_/\gY _ ((ndF (cM E.P t) _ _).run A.tm H))=_;rw[ef];rfl
def SM{op:BinOp}{t:TypeId}{x y:Operand}{c:TypeId}:SK st E ⟨d,.binOp op t x y c,ty,pos,af,gd⟩ A H next=vN next A d (cF H (dE E.P t) op (gV op) (ev A.tm x) (ev A.tm y) (aD E.P A.tm H ⟨d,.binOp op t x y c,ty,pos,af,gd⟩)):=pQ
def SR{t:TypeId}{x:Operand}:SK st E ⟨d,.unOp .not t x,ty,pos,af,gd⟩ A H next=vN next A d (gj (ev A.tm x) (aD E.P A.tm H ⟨d,.unOp .not t x,ty,pos,af,gd⟩) λb=>.val (.one (.b (!b))) H):=pQ
def LF{a b:TypeId}{x:Operand}:SK st E ⟨d,.convert a b x,ty,pos,af,gd⟩ A H next=vN next A d (aD E.P A.tm H ⟨d,.convert a b x,ty,pos,af,gd⟩):=pQ
def uW{s:TypeId}{x:Operand}{f:Nat}:SK st E ⟨d,.fieldAddr s x f,ty,pos,af,gd⟩ A H next=faN next A d H (bG E.P s f) (ev A.tm x):=by refine pQ.trans ?_;show gY _ ((ndF (bG E.P s f) _ _).run A.tm H)=_;rw[ef];rfl
def uX{t:TypeId}{x i:Operand}:SK st E ⟨d,.indexAddr t x i,ty,pos,af,gd⟩ A H next=iaN next A d H (cG E.P t) (ev A.tm x) (ev A.tm i):=by refine pQ.trans ?_;show gY _ ((ndF (cG E.P t) _ _).run A.tm H)=_;rw[ef];rfl
def Ig{t:TypeId}{x:Operand}{lo hi:Option Operand}:SK st E ⟨d,.slice t x lo hi none,ty,pos,af,gd⟩ A H next=vN next A d (WM H (cG E.P t) (ev A.tm x) (lo.map (ev A.tm)) (hi.map (ev A.tm)) (aD E.P A.tm H ⟨d,.slice t x lo hi none,ty,pos,af,gd⟩)):=by
 refine pQ.trans ?_;cases he:cG E.P t with
 |none=>
  have:bf E.P ⟨d,.slice t x lo hi none,ty,pos,af,gd⟩=.mk λtm h=>aD E.P tm h ⟨d,.slice t x lo hi none,ty,pos,af,gd⟩:=by simp[bf,he]
  rw[this];rfl
 |some p=>
  have:bf E.P ⟨d,.slice t x lo hi none,ty,pos,af,gd⟩=.mk λtm h=>eU h p.2 ((opF x).ev tm) (lo.map (ev tm)) (hi.map (ev tm)) (aD E.P tm h ⟨d,.slice t x lo hi none,ty,pos,af,gd⟩):=by simp[bf,he]
  rw[this];rfl
def Au{x:Operand}{i:Nat}:SK st E ⟨d,.extract x i,ty,pos,af,gd⟩ A H next=vN next A d (eI H (ev A.tm x) i):=pQ
def ya{x:Operand}:SK st E ⟨d,.nilCheck x,ty,pos,af,gd⟩ A H next=vN next A d (kh H (ev A.tm x)):=pQ
def xZ{f:FuncId}{cs:Array Operand}:SK st E ⟨d,.makeFunc (.func f) #[] cs,ty,pos,af,gd⟩ A H next=kU (lp (evs cs.toList A.tm)) λc=>next (cU A d (.one (.o (.clo f c)))) H:=by refine pQ.trans ?_;show gY _ (nd (lp (evs cs.toList A.tm)) _ _)=_;rw[HH];rfl
def Av{t:TypeId}:SK st E ⟨d,.makeMap t none,ty,pos,af,gd⟩ A H next=next (cU A d (.one (.o (.mp H.nx)))) (H.new (.oth (.map [] 0))):=pQ
def uY{t:TypeId}{x c:Operand}:SK st E ⟨d,.makeSlice t x c,ty,pos,af,gd⟩ A H next=vN next A d (dY E.P H t (ev A.tm x) (ev A.tm c)):=pQ
def Ie{t:TypeId}{ps:Array (Nat×Operand)}:SK st E ⟨d,.build t ps,ty,pos,af,gd⟩ A H next=kU ((aW E.P t).map λz=>(ofValue z).cells) λz=>kU (jm E.P t) λpl=>kU (fj pl ps.toList) λq=>kU (lL A.tm q z) λc=>next (cU A d (.agg c)) H:=by
 refine pQ.trans ?_;show gY _ ((ndF (aW E.P t) _ _).run A.tm H)=_;rw[ef];cases aW E.P t with
 |none=>rfl
 |some z=>
  show gY _ ((ndF (jm E.P t) _ _).run A.tm H)=_;rw[ef];cases jm E.P t with
  |none=>rfl
  |some pl=>
   show gY _ ((ndF (fj pl ps.toList) _ _).run A.tm H)=kU (fj pl ps.toList) _;rw[ef];cases fj pl ps.toList with
   |none=>rfl
   |some q=>show gY _ (nd (lL A.tm q (ofValue z).cells) _ _)=_;rw[HH];rfl
def tQ{t:TypeId}{n:Nat}{ps:Array (Nat×Operand)}:SK st E ⟨d,.buildSlice t n ps,ty,pos,af,gd⟩ A H next=kU (cG E.P t) λes=>kU ((aW E.P es.1).map λz=>(ofValue z).cells) λz=>
  (n*es.2<=16777216/\z.length=es.2)/\kU (fj (λi=>some (i*es.2,es.2)) ps.toList) λq=>kU (lL A.tm q (nq z n)) λc=>next (cU A d (.one (.o (.sl H.nx 0 0 n es.2)))) (H.new (.arr c es.1 0 0)):=by
 refine pQ.trans ?_;show gY _ ((ndF (cG E.P t) _ _).run A.tm H)=_;rw[ef];cases cG E.P t with
 |none=>rfl
 |some es=>
  show gY _ ((ndF (aW E.P es.1) _ _).run A.tm H)=_;rw[ef];show kU (aW E.P es.1) _=kU ((aW E.P es.1).map λz=>(ofValue z).cells) _;cases aW E.P es.1 with
  |none=>rfl
  |some z=>
   show gY _ ((Eng.ifE (both (Nat.ble (Nat.mul n es.2) 16777216) (Nat.beq (cA (ofValue z).cells) es.2)) _ _:SF).run A.tm H)=(_/\_);rw[er,bZ];have hbc:((Nat.ble (Nat.mul n es.2) 16777216&&Nat.beq (ofValue z).cells.length es.2)=true)↔(n*es.2<=16777216/\(ofValue z).cells.length=es.2):=by rw[aV,tu,tH];exact Iff.rfl
   cases hb:(Nat.ble (Nat.mul n es.2) 16777216&&Nat.beq (ofValue z).cells.length es.2)with
   |false=>exact propext ⟨λh=>h.elim,λh=>by have:=hbc.2 h.1;rw[hb]at this;cases this⟩
   |true=>
    refine Eq.trans ?_ (propext ⟨λh=>⟨hbc.1 hb,h⟩,λh=>h.2⟩);show gY _ ((ndF (fj (λi=>some (i*es.2,es.2)) ps.toList) _ _).run A.tm H)=_;rw[ef];cases fj (λi=>some (i*es.2,es.2)) ps.toList with
    |none=>rfl
    |some q=>show gY _ (nd (lL A.tm q (nq (ofValue z).cells n)) _ _)=_;rw[HH];rfl
def SQ{x:Operand}{t:TypeId}:SK st E ⟨d,.call ⟨.builtin .len,#[x],#[t]⟩,ty,pos,af,gd⟩ A H next=(ltV (ev A.tm x) H.nx/\lnN next A d H (ly E.P t) (ev A.tm x)):=by show(_/\gY _ ((ndF (ly E.P t) _ _).run A.tm H))=_;rw[ef];rfl
def Dk{s x:Operand}{t:TypeId}:SK st E ⟨d,.call ⟨.builtin .append,#[s,x],#[t,t]⟩,ty,pos,af,gd⟩ A H next=((ltV (ev A.tm s) H.nx/\ltV (ev A.tm x) H.nx)/\vN next A d (bM E.P H t (ev A.tm s) (ev A.tm x))):=by
 show(_/\gY _ ((Eng.ifE (Nat.beq t t) (.mk λtm h=>bM E.P h t (ev tm s) (ev tm x)) (oH "append - types"):SF).run A.tm H))=_
 rw[cZ];rfl
def NL{f:Operand}{as:Array Operand}{ts:Array TypeId}:SK st E ⟨d,.call ⟨.value f,as,ts⟩,ty,pos,af,gd⟩ A H next=WE st E A d next H (uv E.P (ev A.tm f) (evs as.toList A.tm)):=rfl
def Ba{P:Program}{f:FuncId}{caps:List (Nat×Nat×Nat×Nat)}{args:List AV}(h:ao P f=true):uv P (.one (.o (.clo f caps))) args=.enter f (args++iD caps):=by show aN (ao P f) _ _=_;rw[h];rfl
def AP:lp []=some []:=rfl
def yi{id g off lim:Nat}{l:List AV}:lp (.one (.o (.ptr id g off lim))::l)=(lp l).map λr=>(id,g,off,lim)::r:=by show(match lp l with|some r=>some ((id,g,off,lim)::r)|none=>none)=_;cases lp l<;>rfl
def yh:iD []=[]:=rfl
def vw{id g off lim:Nat}{l:List (Nat×Nat×Nat×Nat)}:iD ((id,g,off,lim)::l)=.one (.o (.ptr id g off lim))::iD l:=rfl
def DH{c:AC}:(AV.one c).cells=[c]:=congrArg (λn=>n) (rfl:[c]=[c])
def DG{c:List AC}:(AV.agg c).cells=c:=congrArg (λn=>n) (rfl:c=c)
def EM{c:AC}:(AV.one c).cE=true:=congrArg (λn=>n) (rfl:true=true)
def EL{c:List AC}:(AV.agg c).cE=true:=congrArg (λn=>n) (rfl:true=true)
def ab8{c:AC}{l:List (Bool×List AC)}:eI H (.tup ((false,[c])::l)) 0=.val (.one c) H:=rfl
def aaf{c:List AC}{l:List (Bool×List AC)}:eI H (.tup ((true,c)::l)) 0=.val (.agg c) H:=rfl
def ab9{c:AC}{x:Bool×List AC}{l:List (Bool×List AC)}:eI H (.tup (x::(false,[c])::l)) 1=.val (.one c) H:=rfl
def JN{s:List UInt8}:eD H 0 (.one (.o (.str s)))=.val (.one (.i .i64 (s.length:Int))) H:=by show ah.val (Rk (Rs s)) H=_;rw[GN];rfl
def BW{pl:Nat->Option (Nat×Nat)}:fj pl []=some []:=rfl
def yI{pl:Nat->Option (Nat×Nat)}{i:Nat}{x:Operand}{l:List (Nat×Operand)}:fj pl ((i,x)::l)=(pl i).bind λp=>(fj pl l).map λr=>(p.1,p.2,opF x)::r:=by show(match pl i,fj pl l with|some p,some r=>some ((p.1,p.2,opF x)::r)|_,_=>none)=_;cases pl i<;>cases fj pl l<;>rfl
def Jl{tm:PT AV}{c:List AC}:lL tm [] c=some c:=rfl
def Ei{tm:PT AV}{o n:Nat}{f:OpF}{l:List (Nat×Nat×OpF)}{c:List AC}(h1:(f.ev tm).cells.length=n)(h2:o+n<=c.length)(h3:(f.ev tm).cE=true):lL tm ((o,n,f)::l) c=lL tm l (c.take o++((f.ev tm).cells++c.drop (o+n))):=by show Eng.ifE (both (Nat.beq (cA (f.ev tm).cells) n) (both (Nat.ble (Nat.add o n) (cA c)) (f.ev tm).cE)) (lL tm l (iT c o (f.ev tm).cells)) none=_;have e2:Nat.ble (Nat.add o n) c.length=true:=bU h2;rw[bZ,bZ,h1,cZ,e2,h3,mj,h1];rfl
def Ww{z:List AC}:nq z 1=z:=by
 show qu z []=z;induction z with
 |nil=>rfl
 |cons x z ih=>show x::qu z []=_;rw[ih]
def WN{id g off len sz i:Nat}{k:IntKind}{alt:ah}(h:i<=len):eU H sz (.one (.o (.sl id g off len sz))) (some (.one (.i k (i:Int)))) none alt=.val (.one (.o (.sl id g (off+i*sz) (len-i) sz))) H:=by show aN (both (Nat.beq sz sz) (both (Nat.ble i len) (Nat.ble len len))) _ _=_;rw[cZ,bU h,bU (ai len)];rfl
def KV{id g off len sz i:Nat}{k:IntKind}{alt:ah}(h:i<=len):eU H sz (.one (.o (.sl id g off len sz))) none (some (.one (.i k (i:Int)))) alt=.val (.one (.o (.sl id g off i sz))) H:=by show aN (both (Nat.beq sz sz) (both (Nat.ble 0 i) (Nat.ble i len))) _ _=_;rw[cZ,bU (Nat.zero_le i),bU h];show ah.val (.one (.o (.sl id g (off+0*sz) (i-0) sz))) H=_;rw[Nat.zero_mul,Nat.add_zero,Nat.sub_zero]
def yx{id g off len sz:Nat}(h:0<len):dz H sz (.one (.o (.sl id g off len sz))) (.one (.i .i64 0))=.val (.one (.o (.ptr id g off sz))) H:=by have:=ic (H:=H) (id:=id) (g:=g) (off:=off) (sz:=sz) (i:=0) h;rw[Nat.zero_mul,Nat.add_zero]at this;exact this
def Vs{id g off n sz:Nat}:eD H 1 (.one (.o (.sl id g off n sz)))=.val (.one (.i .i64 (n:Int))) H:=rfl
def Vr:eD H 1 (.one (.o .nilS))=.val (.one (.i .i64 0)) H:=rfl
end
section
variable{H:Hp}{o:aX}{i k a b c:Nat}
def aC(h:i=H.nx):(H.new o).get i=some o:=by rw[Jq,ad h]
def bw(h:i<H.nx):(H.new o).get i=H.get i:=by rw[Jq,ab aa]
def aq(h:i=k):(H.mod k o).get i=some o:=by rw[Jp,ad h]
def aB(h:i≠k):(H.mod k o).get i=H.get i:=by rw[Jp,ab h]
def DU(tm:PT AV)(t:Nat):ev tm (.tmp t)=slot tm t:=congrArg (λn=>n) (rfl:slot tm t=slot tm t)
def aan(tm:PT AV)(x:Operand):(opF x).ev tm=ev tm x:=congrArg (λn=>n) (rfl:ev tm x=ev tm x)
def ab5{n:Nat}:((((n+1:Nat):Int))==0)=false:=beq_eq_false_iff_ne.2 aa
def aab:(((0:Nat):Int))=0:=congrArg (λn=>n) (rfl:(0:Int)=0)
def wx:(H.new o).nx=H.nx+1:=congrArg (λn=>n) (rfl:H.nx+1=H.nx+1)
def Py:(H.mod k o).nx=H.nx:=congrArg (λn=>n) (rfl:H.nx=H.nx)
def aam(h:a<b):(a<b+c)=True:=bH aa
def ab7(h:a<b):(a=b)=False:=bh aa
def ab6(h:b<a):(a=b)=False:=bh aa
def aad(h:a<b):(a=b+c)=False:=bh aa
end
def gE{n:Int}(h1:-9223372036854775808<=n)(h2:n<=9223372036854775807):IntKind.i64.wrap n=n:=by rw[IntKind.wrap_i64];omega
def Con(E:Env)(f:FuncId)(args:List AV)(H:Hp)(X:Nat->Prop)(Q:AV->Hp->Prop):Prop:=
 ∀lg,N1 E ⟨H.t,H.nx,lg⟩ (.enter f args) λv h'=>Fr X ⟨H.t,H.nx,lg⟩ h'/\∀lg',Q v ⟨h'.t,h'.nx,lg'⟩
section
variable{E:Env}{f:FuncId}{args:List AV}{H:Hp}{X:Nat->Prop}{Q:AV->Hp->Prop}
def Con.cn{next:AV->Hp->Prop}(h:Con E f args H X Q)(hn:∀v H',Fr X H H'->Q v H'->next v H'):CN E H (.enter f args) next:=λlg=>
 (h lg).mono λv h'⟨h1,h2⟩lg' hx=>hn _ _ (hx X h1) (h2 lg')
def WE.con{A:ag}{d:Option Tmp}{next:ag->Hp->Prop}(h:Con E f args H X Q)(hn:∀v H',Fr X H H'->Q v H'->next (cU A d v) H'):WE false E A d next H (.enter f args):=λlg=>
 (h lg).mono λ_ _⟨h1,h2⟩=>⟨λh=>(by cases h),λlg' hx=>hn _ _ (hx X h1) (h2 lg')⟩
def WE.po{st:Bool}{A:ag}{d:Option Tmp}{next:ag->Hp->Prop}(h:Con E f args H (λ_=>False) Q)(hn:∀v H',Gr H H'->Q v H'->next (cU A d v) H'):WE st E A d next H (.enter f args):=λlg=>
 (h lg).mono λ_ _⟨h1,h2⟩=>⟨λ_=>h1,λlg' hx=>hn _ _ (hx _ h1) (h2 lg')⟩
def WE.fJ{st:Bool}{A:ag}{d:Option Tmp}{next:ag->Hp->Prop}{v:AV}(hp:E.fJ f args=some v)(hn:∀H',Gr H H'->H'.nx=H.nx->(∀i,H'.get i=H.get i)->next (cU A d v) H'):WE st E A d next H (.enter f args):=λlg=>N1.fJ hp ⟨λ_=>Fr.refl _,λlg' hx=>hn ⟨H.t,H.nx,lg'⟩ (hx _ (Fr.refl _)) rfl λ_=>rfl⟩
def NP{st:Bool}{o:Oper}{A:ag}{next:ag->Hp->Prop}{c:Prop}[Decidable c](h1:c->SU st E o A H next .yes)(h2:¬c->SU st E o A H next .no):SU st E o A H next (if c then .yes else .no):=by
 by_cases h:c
 ·rw[ad h];exact h1 h
 rw[ab h];exact h2 h
def Con.of(hp:E.fJ f args=none)(h:∀lg,C1 E f args ⟨H.t,H.nx,lg⟩ λv h'=>Fr X ⟨H.t,H.nx,lg⟩ h'/\∀lg',Q v ⟨h'.t,h'.nx,lg'⟩)(hq:∀lg,E.eN f args ⟨H.t,H.nx,lg⟩=none:=by intro _;rfl):Con E f args H X Q:=λlg=>N1.call hp (hq lg) (h lg)
def Con.eN{v:AV}{id:Nat}{o:aX}(hp:E.fJ f args=none)(hq:∀lg,E.eN f args ⟨H.t,H.nx,lg⟩=some (v,id,o))(h:∀lg,Q v ⟨(H.mod id o).t,(H.mod id o).nx,lg⟩):Con E f args H (λk=>k=id) Q:=λlg=>N1.eN hp (hq lg) ⟨(Fr.refl _).mod _ (.inr rfl),h⟩
def Con.fJ{v:AV}(hp:E.fJ f args=some v)(h:∀lg,Q v ⟨H.t,H.nx,lg⟩):Con E f args H X Q:=λlg=>N1.fJ hp ⟨Fr.refl _,h⟩
def Con.mono{X':Nat->Prop}{Q':AV->Hp->Prop}(h:Con E f args H X Q)(hx:∀i,X i->X' i)(hq:∀v H',Q v H'->Q' v H'):Con E f args H X' Q':=λlg=>
 (h lg).mono λv h'⟨h1,h2⟩=>⟨h1.mono hx,λlg'=>hq v _ (h2 lg')⟩
end
def bC{α β:Type}{P:Program}(f:α->Sem β):∀x:Sem α,aH P (x.bind f)=(aH P x).bind λa=>aH P (f a)
 |.pure a=>rfl
 |.load _ _ _=>rfl
 |.store _ _ _ _=>rfl
 |.new _ _=>rfl
 |.shape _ _=>rfl
 |.freeze _ _ _=>rfl
 |.frozen _ _=>rfl
 |.getObj _ _=>rfl
 |.setObj _ _ _=>rfl
 |.choose _ _=>rfl
 |.sys _ _=>rfl
 |.program k=>bC f (k P)
 |.mark _ k=>bC f k
 |.halt _=>rfl
def bV{α β:Type}{P:Program}(f:α->Sem β)(x:Sem α):aH P (x >>= f)=(aH P x).bind λa=>aH P (f a):=bC f x
def QW{P:Program}{t:TypeId}{n:Nat}(h:aH P (underlying t)=some .string)(a b:ByteArray):aH P (Op.equalIn (n+1) t (.string a) (.string b))=some (a==b):=by unfold Op.equalIn;rw[bV,h];rfl
def eq_int{P:Program}{t:TypeId}{n:Nat}{k:IntKind}(h:aH P (underlying t)=some (.int k))(k':IntKind)(a b:Int):aH P (Op.equalIn (n+1) t (.int k' a) (.int k' b))=some (a==b):=by unfold Op.equalIn;rw[bV,h];show aH P (if k'=k' then pure (a==b)else _)=_;rw[ad rfl];rfl
def OH{P:Program}{t:TypeId}{n:Nat}(h:aH P (underlying t)=some .bool)(a b:Bool):aH P (Op.equalIn (n+1) t (.bool a) (.bool b))=some (a==b):=by unfold Op.equalIn;rw[bV,h];rfl
def yB{P:Program}(g:Field->Sem Bool):∀(fs:List Field)(bs:List Bool),(∀f∈fs,f.name ≠ "_")->fs.map (λf=>aH P (g f))=bs.map some ->
  aH P (forIn fs ((none,()):Option Bool×Unit) λf __s=>(if f.name ≠ "_" then(g f).bind λb=>if(!b)=true then pure (ForInStep.done (some false,()))else pure (ForInStep.yield (none,()))else pure (ForInStep.yield (none,())):Sem (ForInStep (Option Bool×Unit)))) =
   some (if bs.all id=true then(none,())else(some false,()))
 |[],[],_,_=>rfl
 |[],_::_,_,h=>by cases h
 |_::_,[],_,h=>by cases h
 |f::fs,b::bs,hn,h=>by
  simp only[List.map_cons,tE]at h;have ih:=yB g fs bs (λf hf=>hn f (aR _ hf)) h.2;rw[List.forIn_cons,bV,ad (hn f (aT ..)),bC,h.1];simp only[Option.bind_some];cases b with
  |false=>rfl
  |true=>show aH P _=_;refine ih.trans ?_;rfl
def QX{P:Program}{t:TypeId}{n:Nat}{fs:Array Field}(h:aH P (underlying t)=some (.struct fs))(hs:P.stoodInHeld t=false) (hn:∀f∈fs.toList,f.name ≠ "_") (xs ys:Array Value) (bs:List Bool)
  (hf:fs.toList.map (λf=>aH P ((part f.type xs f.offset).bind λa=>(part f.type ys f.offset).bind λb=>Op.equalIn n f.type a b))=bs.map some):
  aH P (Op.equalIn (n+1) t (.agg xs) (.agg ys))=some (bs.all id):=by
 unfold Op.equalIn;rw[bV,h];simp only[Option.bind_some];rw[bV];have hp:aH P program=some P:=rfl;rw[hp];simp only[Option.bind_some,hs];rw[ab aU,bV];have key:=yB (P:=P) (λf=>(part f.type xs f.offset).bind λa=>(part f.type ys f.offset).bind λb=>Op.equalIn n f.type a b) fs.toList bs hn hf;have e:aH P (forIn fs ((none,()):Option Bool×Unit) λf __s=>(if f.name ≠ "_" then do
        let __do_lift <-part f.type xs f.offset
        let __do_lift_1 <-part f.type ys f.offset
        let __do_lift <-Op.equalIn n f.type __do_lift __do_lift_1
        if(!__do_lift)=true then pure (ForInStep.done (some false,()))
         else pure (ForInStep.yield (none,()))
       else pure (ForInStep.yield (none,())):Sem (ForInStep (Option Bool×Unit))))=some (if bs.all id=true then(none,())else(some false,())):=by
  rw[<-key,<-Array.forIn_toList];congr 2
  funext f s
  split
  ·show Sem.bind _ _=Sem.bind _ _;have asc:∀{α β γ:Type}(x:Sem α)(f:α->Sem β)(g:β->Sem γ),(x.bind f).bind g=x.bind λa=>(f a).bind g:=by
    intro α β γ x f g;induction x with
    |pure a=>rfl
    |load m a k ih=>simp only[Sem.bind,ih]
    |store m a v k ih=>simp only[Sem.bind,ih]
    |new o k ih=>simp only[Sem.bind,ih]
    |shape r k ih=>simp only[Sem.bind,ih]
    |freeze a n k ih=>simp only[Sem.bind,ih]
    |frozen a k ih=>simp only[Sem.bind,ih]
    |getObj r k ih=>simp only[Sem.bind,ih]
    |setObj r o k ih=>simp only[Sem.bind,ih]
    |choose q k ih=>simp only[Sem.bind,ih]
    |sys c k ih=>simp only[Sem.bind,ih]
    |program k ih=>simp only[Sem.bind,ih]
    |mark m k ih=>simp only[Sem.bind,ih]
    |halt h=>rfl
   rw[asc];congr 1
   funext a
   rw[asc];rfl
  rfl
 rw[e];cases hb:bs.all id<;>rfl
def cY{P:Program}{t:TypeId}{d:TypeDesc}(h:P.underlying t=some d):aH P (underlying t)=some d:=by
 show aH P (match P.underlying t with|some d=>pure d|none=>stuck "no such type")=_
 rw[h];rfl
inductive FK where
 |s
 |i
 |b
def nG(P:Program):Nat->List Field->Option (List FK)
 |_,[]=>some []
 |i,f::fs=>
  bif f.name == "_" || !(f.offset==i)then none else
  match P.underlying f.type with
  |some .string=>(nG P (i+1) fs).map (.s::·)
  |some (.int _)=>(nG P (i+1) fs).map (.i::·)
  |some .bool=>(nG P (i+1) fs).map (.b::·)
  |_=>none
def eqK(P:Program)(t:TypeId):Option (List FK):=
 match P.underlying t with
 |some (.struct fs)=>bif P.stoodInHeld t||P.eqGuardType P.depth t then none else nG P 0 fs.toList
 |_=>none
def fT:List FK->List AC->List AC->Option Bool
 |[],[],[]=>some true
 |.s::ks,.o (.str a)::l,.o (.str b)::l'=>(fT ks l l').map λr=>a==b&&r
 |.i::ks,.i k n::l,.i k' m::l'=>if k=k' then(fT ks l l').map λr=>n==m&&r else none
 |.b::ks,.b x::l,.b y::l'=>(fT ks l l').map λr=>x==y&&r
 |_,_,_=>none
def sJ:fT [] [] []=some true:=rfl
def zd{ks:List FK}{a b:List UInt8}{l l':List AC}:fT (.s::ks) (.o (.str a)::l) (.o (.str b)::l')=(fT ks l l').map λr=>a==b&&r:=rfl
def zb{ks:List FK}{k:IntKind}{a b:Int}{l l':List AC}:fT (.i::ks) (.i k a::l) (.i k b::l')=(fT ks l l').map λr=>a==b&&r:=by show(if k=k then _ else _)=_;rw[ad rfl]
def za{ks:List FK}{a b:Bool}{l l':List AC}:fT (.b::ks) (.b a::l) (.b b::l')=(fT ks l l').map λr=>a==b&&r:=rfl
def Kn{P:Program}{t:TypeId}{d:TypeDesc}(h:P.underlying t=some d)(hd:∀fs,d≠.struct fs)(hd2:∀n e,d≠.array n e)(cs:Array Value)(off:Nat)(v:Value)(hv:cs[off]?=some v):aH P (part t cs off)=some v:=by
 unfold part;rw[bV];have:aH P (isAgg t)=some false:=by unfold isAgg;rw[bV,cY h];cases d<;>first|rfl|exact absurd rfl (hd _)|exact absurd rfl (hd2 _ _)
 rw[this];simp only[Option.bind_some,hv];rfl
def Mb(a b:List UInt8):((⟨a.toArray⟩:ByteArray)==⟨b.toArray⟩)=(a==b):=by show(a.toArray==b.toArray)=_;simp
def It{P:Program}{n:Nat}:∀(fs:List Field)(i:Nat)(ks:List FK)(l l':List AC)(r:Bool)(us us' vs vs':List Value),nG P i fs=some ks->fT ks l l'=some r->bQ l=some vs->bQ l'=some vs'->us.length=i->us'.length=i ->
  (∀f∈fs,f.name ≠ "_")/\∃bs:List Bool,fs.map (λf=>aH P ((part f.type (us++vs).toArray f.offset).bind λa=>(part f.type (us'++vs').toArray f.offset).bind λb=>Op.equalIn (n+1) f.type a b))=bs.map some/\bs.all id=r
 |[],i,ks,l,l',r,us,us',vs,vs',h,he,hv,I5,_,_=>by
  cases h
  cases l<;>cases l'<;>first|(cases he;done)|(cases he;exact⟨λf hf=>(by cases hf),[],rfl,rfl⟩)
 |f::fs,i,ks,l,l',r,us,us',vs,vs',h,he,hv,I5,hu,i_=>by
  unfold nG at h;cases hc:(f.name == "_" || !(f.offset==i))with
  |true=>rw[hc]at h;cases h
  |false=>
   rw[hc]at h;rw[tF]at hc;have hname:f.name ≠ "_" := λe=>by rw[e]at hc;exact absurd hc.1 aU
   have hoff:f.offset=i:=by simpa using hc.2
   simp only[cond_false]at h;have step:∀(d:TypeDesc)(v v':Value)(ws ws':List Value)(ks':List FK)(m m':List AC)(b r':Bool),P.underlying f.type=some d->(∀fs,d≠.struct fs)->(∀n e,d≠.array n e)->aH P (Op.equalIn (n+1) f.type v v')=some b->vs=v::ws->vs'=v'::ws' ->
     nG P (i+1) fs=some ks'->fT ks' m m'=some r'->bQ m=some ws->bQ m'=some ws'->(b&&r')=r ->
     (∀f'∈f::fs,f'.name ≠ "_")/\∃bs:List Bool,(f::fs).map (λf=>aH P ((part f.type (us++vs).toArray f.offset).bind λa=>(part f.type (us'++vs').toArray f.offset).bind λb=>Op.equalIn (n+1) f.type a b))=bs.map some/\bs.all id=r:=by
    intro d v v' ws ws' ks' m m' b r' hd h1 h2 hb e1 e2 hk hm hw N4 hr;subst e1 e2;obtain⟨ih1,bs,ih2,ih3⟩:=It (P:=P) (n:=n) fs (i+1) ks' m m' r' (us++[v]) (us'++[v']) ws ws' hk hm hw N4 (by simp[hu]) (by simp[i_]);refine⟨λf' B9=>?_,b::bs,?_,?_⟩
    ·rcases List.mem_cons.1 B9 with rfl|B9
     ·exact hname
     exact ih1 f' B9
    ·rw[List.map_cons,List.map_cons,bC,Kn hd h1 h2 _ _ v (by rw[hoff];simp[<-hu])];simp only[Option.bind_some];rw[bC,Kn hd h1 h2 _ _ v' (by rw[hoff];simp[<-i_])];simp only[Option.bind_some];rw[hb];have:us++[v]++ws=us++v::ws:=by simp
     rw[this]at ih2;have:us'++[v']++ws'=us'++v'::ws':=by simp
     rw[this]at ih2;rw[ih2]
    rw[List.all_cons,ih3];exact hr
   have cons1:∀{c:AC}{m:List AC}{v:Value},c.val?=some v->bQ (c::m)=some vs->∃ws,vs=v::ws/\bQ m=some ws:=by
    intro c m v h1 h2;unfold bQ at h2;rw[h1]at h2;cases hm:bQ m with
    |none=>rw[hm]at h2;cases h2
    |some ws=>rw[hm]at h2;cases h2;exact⟨ws,rfl,rfl⟩
   have cons2:∀{c:AC}{m:List AC}{v:Value},c.val?=some v->bQ (c::m)=some vs'->∃ws,vs'=v::ws/\bQ m=some ws:=by
    intro c m v h1 h2;unfold bQ at h2;rw[h1]at h2;cases hm:bQ m with
    |none=>rw[hm]at h2;cases h2
    |some ws=>rw[hm]at h2;cases h2;exact⟨ws,rfl,rfl⟩
   cases hd:P.underlying f.type with
   |none=>rw[hd]at h;cases h
   |some d=>
    rw[hd]at h;cases hk:nG P (i+1) fs with
    |none=>rw[hk]at h;cases d<;>cases h
    |some ks'=>
     rw[hk]at h;cases d with
     |string=>
      have h2:FK.s::ks'=ks:=eh h;subst h2;unfold fT at he;split at he<;>first|(cases he;done)|skip
      ·rename_i e;cases e
      ·rename_i e
       cases e
       rename_i a m b m'
       obtain⟨ws,e1,hw⟩:=cons1 (v:=.string ⟨a.toArray⟩) rfl hv;obtain⟨ws',e2,N4⟩:=cons2 (v:=.string ⟨b.toArray⟩) rfl I5;cases hr:fT ks' m m' with
       |none=>rw[hr]at he;cases he
       |some r'=>
        rw[hr]at he;cases he
        exact step .string _ _ ws ws' ks' m m' (a==b) r' hd (λ_ h=>by cases h) (λ_ _ h=>by cases h) (by rw[QW (cY hd),Mb]) e1 e2 hk hr hw N4 rfl
      ·rename_i e;cases e
      rename_i e;cases e
     |int kk=>
      have h2:FK.i::ks'=ks:=eh h;subst h2;unfold fT at he;split at he<;>first|(cases he;done)|skip
      ·rename_i e;cases e
      ·rename_i e;cases e
      ·rename_i e
       cases e
       rename_i k a m k' b m'
       split at he
       ·rename_i ek
        subst ek;obtain⟨ws,e1,hw⟩:=cons1 (v:=.int k a) rfl hv;obtain⟨ws',e2,N4⟩:=cons2 (v:=.int k b) rfl I5;cases hr:fT ks' m m' with
        |none=>rw[hr]at he;cases he
        |some r'=>
         rw[hr]at he;cases he
         exact step (.int kk) _ _ ws ws' ks' m m' (a==b) r' hd (λ_ h=>by cases h) (λ_ _ h=>by cases h) (eq_int (cY hd) k a b) e1 e2 hk hr hw N4 rfl
       cases he
      rename_i e;cases e
     |bool=>
      have h2:FK.b::ks'=ks:=eh h;subst h2;unfold fT at he;split at he<;>first|(cases he;done)|skip
      ·rename_i e;cases e
      ·rename_i e;cases e
      ·rename_i e;cases e
      rename_i e
      cases e
      rename_i a m b m'
      obtain⟨ws,e1,hw⟩:=cons1 (v:=.bool a) rfl hv;obtain⟨ws',e2,N4⟩:=cons2 (v:=.bool b) rfl I5;cases hr:fT ks' m m' with
      |none=>rw[hr]at he;cases he
      |some r'=>
       rw[hr]at he;cases he
       exact step .bool _ _ ws ws' ks' m m' (a==b) r' hd (λ_ h=>by cases h) (λ_ _ h=>by cases h) (OH (cY hd) a b) e1 e2 hk hr hw N4 rfl
     |_=>cases h
def cI(P:Program)(tm:PT AV)(h:Hp)(o:Oper):ah:=aD P tm h o
def Th(ks:List FK)(f:Bool->Bool)(H:Hp)(alt:ah)(x y:AV):ah:=
 match x,y with
 |.agg l,.agg l'=>match fT ks l l' with|some b=>.val (.one (.b (f b))) H|none=>alt
 |_,_=>alt
def abU(f:Bool->Bool)(H:Hp)(alt:ah)(o:Option Bool):ah:=match o with|some b=>.val (.one (.b (f b))) H|none=>alt
def Ds{f:Bool->Bool}{H:Hp}{alt:ah}{b:Bool}:abU f H alt (some b)=.val (.one (.b (f b))) H:=rfl
def Is{ks:List FK}{f:Bool->Bool}{H:Hp}{alt:ah}{l l':List AC}:Th ks f H alt (.agg l) (.agg l')=abU f H alt (fT ks l l'):=rfl
def yW{P:Program}{op:BinOp}{t:TypeId}{x y:Operand}{a b:Array Value}(hg:P.eqGuardType P.depth t=false):aH P (eqGuard op t x y (.agg a) (.agg b))=some ():=by
 unfold eqGuard;cases op<;>first
  |rfl
  |(show aH P (Sem.bind _ _)=_
    rw[bC];show aH P (if(!P.eqGuardType P.depth t)=true then _ else _)=_;rw[hg];rfl)
def XN{ks:List FK}:∀{l l':List AC}{r:Bool},fT ks l l'=some r->(∃vs,bQ l=some vs)/\(∃vs,bQ l'=some vs)/\(bQ l).isSome=true:=by
 induction ks with
 |nil=>intro l l' r h;cases l<;>cases l'<;>first|(cases h;done)|exact⟨⟨[],rfl⟩,⟨[],rfl⟩,rfl⟩
 |cons k ks ih=>
  intro l l' r h;unfold fT at h;split at h<;>first|(cases h;done)|skip
  ·rename_i e;cases e
  ·rename_i e;cases e
   rename_i a m b m'
   cases hr:fT ks m m' with
   |none=>rw[hr]at h;cases h
   |some r'=>obtain⟨⟨vs,h1⟩,⟨vs',h2⟩,_⟩:=ih hr;exact⟨⟨.string ⟨a.toArray⟩::vs,by simp only[bQ,AC.val?,h1]⟩,⟨.string ⟨b.toArray⟩::vs',by simp only[bQ,AC.val?,h2]⟩,by simp only[bQ,AC.val?,h1];rfl⟩
  ·rename_i e;cases e
   rename_i k a m k' b m'
   split at h
   ·cases hr:fT ks m m' with
    |none=>rw[hr]at h;cases h
    |some r'=>obtain⟨⟨vs,h1⟩,⟨vs',h2⟩,_⟩:=ih hr;exact⟨⟨.int k a::vs,by simp only[bQ,AC.val?,h1]⟩,⟨.int k' b::vs',by simp only[bQ,AC.val?,h2]⟩,by simp only[bQ,AC.val?,h1];rfl⟩
   cases h
  rename_i e;cases e
  rename_i a m b m'
  cases hr:fT ks m m' with
  |none=>rw[hr]at h;cases h
  |some r'=>obtain⟨⟨vs,h1⟩,⟨vs',h2⟩,_⟩:=ih hr;exact⟨⟨.bool a::vs,by simp only[bQ,AC.val?,h1]⟩,⟨.bool b::vs',by simp only[bQ,AC.val?,h2]⟩,by simp only[bQ,AC.val?,h1];rfl⟩
def QY{P:Program}{t:TypeId}{ks:List FK}(h:eqK P t=some ks){l l':List AC}{vs vs':List Value}{r:Bool}(hr:fT ks l l'=some r)(hv:bQ l=some vs)(I5:bQ l'=some vs'):
  aH P (Op.equal t (.agg vs.toArray) (.agg vs'.toArray))=some r/\P.eqGuardType P.depth t=false:=by
 unfold eqK at h;cases hu:P.underlying t with
 |none=>rw[hu]at h;cases h
 |some d=>
  rw[hu]at h;cases d with
  |struct fs=>
   simp only at h
   cases hb:(P.stoodInHeld t||P.eqGuardType P.depth t)with
   |true=>rw[hb]at h;cases h
   |false=>rw[hb]at h;rw[tF]at hb;obtain⟨h1,bs,h2,h3⟩:=It (P:=P) (n:=9998) fs.toList 0 ks l l' r [] [] vs vs' h hr hv I5 rfl rfl;refine⟨?_,hb.2⟩;rw[<-h3];exact QX (n:=9999) (cY hu) hb.1 h1 _ _ bs h2
  |_=>cases h
def Fb{P:Program}{tm:PT AV}{H:Hp}{d:Option Tmp}{t c:TypeId}{x y:Operand}{ty:TypeId}{pos:String}{af:Array Edge}{g:Option (Nat×Bool)}{ks:List FK}(h:eqK P t=some ks)(op:BinOp)(f:Bool->Bool)
  (hop:∀a b:Array Value,binOp op t (.agg a) (.agg b)=(do pure (.bool (f (<-Op.equal t (.agg a) (.agg b)))))):aD P tm H ⟨d,.binOp op t x y c,ty,pos,af,g⟩=Th ks f H (cI P tm H ⟨d,.binOp op t x y c,ty,pos,af,g⟩) (ev tm x) (ev tm y):=by
 unfold Th;split
 ·rename_i l l' hx hy
  split
  ·rename_i r hr
   obtain⟨⟨vs,h1⟩,⟨vs',h2⟩,_⟩:=XN hr;obtain⟨h3,h4⟩:=QY h hr h1 h2;have vx:(ev tm x).val?=some (.agg vs.toArray):=by rw[hx];simp only[AV.val?,h1]
   have vy:(ev tm y).val?=some (.agg vs'.toArray):=by rw[hy];simp only[AV.val?,h2]
   have dx:cq (ev tm x)=.agg vs.toArray:=by unfold cq;rw[vx]
   have dy:cq (ev tm y)=.agg vs'.toArray:=by unfold cq;rw[vy]
   unfold aD;have e1:((⟨d,.binOp op t x y c,ty,pos,af,g⟩:Oper).op.operands.toList.all λx=>(ev tm x).val?.isSome)=true:=by show([x,y].all λx=>(ev tm x).val?.isSome)=true;simp only[List.all_cons,List.all_nil,vx,vy];rfl
   rw[e1];have e2:aH P (execOp (λx=>cq (ev tm x)) ⟨d,.binOp op t x y c,ty,pos,af,g⟩)=some (.value (.bool (f r))):=by show aH P (Sem.bind (Sem.bind (eqGuard op t x y (cq (ev tm x)) (cq (ev tm y))) λ_=>binOp op t (cq (ev tm x)) (cq (ev tm y))) λv=>Sem.pure (Next.value v))=_;rw[dx,dy,bC,bC,yW h4,hop];simp only[Option.bind_some];rw[bV,h3];rfl
   rw[e2];rfl
  rfl
 rfl
def RT{P:Program}{tm:PT AV}{H:Hp}{d:Option Tmp}{t c:TypeId}{x y:Operand}{ty:TypeId}{pos:String}{af:Array Edge}{g:Option (Nat×Bool)}{ks:List FK}(h:eqK P t=some ks):
  aD P tm H ⟨d,.binOp .neq t x y c,ty,pos,af,g⟩=Th ks (!·) H (cI P tm H ⟨d,.binOp .neq t x y c,ty,pos,af,g⟩) (ev tm x) (ev tm y):=Fb h .neq (!·) λ_ _=>rfl
def Fe{P:Program}{tm:PT AV}{H:Hp}{d:Option Tmp}{t c:TypeId}{x y:Operand}{ty:TypeId}{pos:String}{af:Array Edge}{g:Option (Nat×Bool)}{ks:List FK}(h:eqK P t=some ks):
  aD P tm H ⟨d,.binOp .eql t x y c,ty,pos,af,g⟩=Th ks id H (cI P tm H ⟨d,.binOp .eql t x y c,ty,pos,af,g⟩) (ev tm x) (ev tm y):=Fb h .eql id λ_ _=>rfl
def Oi{H:Hp}{kd:Nat}{op:BinOp}{f:BF}{l:List AC}{y:AV}{alt:ah}:cF H kd op f (.agg l) y alt=alt:=rfl
def aaa{H:Hp}{kd:Nat}{op:BinOp}{f:BF}{x:Bool}{y:AV}{alt:ah}:cF H kd op f (.one (.b x)) y alt=alt:=rfl
def Ol(f:Bool->Bool->Bool)(H:Hp)(alt:ah)(x y:AV):ah:=
 match x,y with
 |.one (.b a),.one (.b b)=>.val (.one (.b (f a b))) H
 |_,_=>alt
def Om{f:Bool->Bool->Bool}{H:Hp}{alt:ah}{a b:Bool}:Ol f H alt (.one (.b a)) (.one (.b b))=.val (.one (.b (f a b))) H:=rfl
def MR{P:Program}{tm:PT AV}{H:Hp}{d:Option Tmp}{t c:TypeId}{x y:Operand}{ty:TypeId}{pos:String}{af:Array Edge}{g:Option (Nat×Bool)}(h:P.underlying t=some .bool)(op:BinOp)(f:Bool->Bool->Bool)
  (hop:∀a b:Bool,aH P (binOp op t (.bool a) (.bool b))=some (.bool (f a b))) (hg:∀a b,eqGuard op t x y (.bool a) (.bool b)=pure ()):aD P tm H ⟨d,.binOp op t x y c,ty,pos,af,g⟩=Ol f H (cI P tm H ⟨d,.binOp op t x y c,ty,pos,af,g⟩) (ev tm x) (ev tm y):=by
 unfold Ol;split
 ·rename_i a b hx hy
  have vx:(ev tm x).val?=some (.bool a):=by rw[hx];rfl
  have vy:(ev tm y).val?=some (.bool b):=by rw[hy];rfl
  have dx:cq (ev tm x)=.bool a:=by unfold cq;rw[vx]
  have dy:cq (ev tm y)=.bool b:=by unfold cq;rw[vy]
  unfold aD;have e1:((⟨d,.binOp op t x y c,ty,pos,af,g⟩:Oper).op.operands.toList.all λx=>(ev tm x).val?.isSome)=true:=by show([x,y].all λx=>(ev tm x).val?.isSome)=true;simp only[List.all_cons,List.all_nil,vx,vy];rfl
  rw[e1];have e2:aH P (execOp (λx=>cq (ev tm x)) ⟨d,.binOp op t x y c,ty,pos,af,g⟩)=some (.value (.bool (f a b))):=by show aH P (Sem.bind (Sem.bind (eqGuard op t x y (cq (ev tm x)) (cq (ev tm y))) λ_=>binOp op t (cq (ev tm x)) (cq (ev tm y))) λv=>Sem.pure (Next.value v))=_;rw[dx,dy,bC,bC,hg];show(((aH P (binOp op t (.bool a) (.bool b)))).bind _)=_;rw[hop];rfl
  rw[e2];rfl
 rfl
def MQ{P:Program}{tm:PT AV}{H:Hp}{d:Option Tmp}{t c:TypeId}{x y:Operand}{ty:TypeId}{pos:String}{af:Array Edge}{g:Option (Nat×Bool)}(h:P.underlying t=some .bool):
  aD P tm H ⟨d,.binOp .neq t x y c,ty,pos,af,g⟩=Ol (λa b=>!(a==b)) H (cI P tm H ⟨d,.binOp .neq t x y c,ty,pos,af,g⟩) (ev tm x) (ev tm y):=
 MR h .neq _ (λa b=>by show aH P (Sem.bind (Op.equalIn 10000 t (.bool a) (.bool b)) λr=>Sem.pure (Value.bool (!r)))=_;rw[bC,OH (n:=9999) (cY h)];rfl) λ_ _=>rfl
structure nk where
 cells:List AC
 p:Place
def LM:Nat->List (Option nk)->PT aX
 |_,[]=>.leaf
 |n,none::l=>LM (n+1) l
 |n,some x::l=>(LM (n+1) l).set n (.ro x.cells)
def np(l:List (Option nk)):Pl:=λi g=>if g=0 then((l[i]?).join).map nk.p else none
def Bw(i:Nat):∀(l:List (Option nk))(n:Nat),(LM n l).get i=if n<=i then((l[i-n]?).join).map λx=>.ro x.cells else none
 |[],n=>by show(PT.leaf:PT aX).get i=_;split<;>simp[PT.get]
 |none::l,n=>by
  show(LM (n+1) l).get i=_;rw[Bw i l (n+1)];by_cases h:n+1<=i
  ·have e:i-n=(i-(n+1))+1:=aa;rw[ad h,ad aa,e,List.getElem?_cons_succ]
  rw[ab h];by_cases h2:n<=i
  ·have e:i-n=0:=aa;rw[ad h2,e];rfl
  rw[ab h2]
 |some x::l,n=>by
  show((LM (n+1) l).set n (.ro x.cells)).get i=_;rw[PT.fE,Bw i l (n+1)];by_cases h0:i=n
  ·subst h0;rw[ad rfl,ad (ai _),ga];rfl
  rw[ab h0];by_cases h:n+1<=i
  ·have e:i-n=(i-(n+1))+1:=aa;rw[ad h,ad aa,e,List.getElem?_cons_succ]
  rw[ab h,ab aa]
def qM(l:List (Option nk)):Hp:=⟨LM 0 l,l.length,[]⟩
def oT(l:List (Option nk))(i:Nat):(qM l).get i=((l[i]?).join).map λx=>.ro x.cells:=by show(LM 0 l).get i=_;rw[Bw i l 0,ad (Nat.zero_le _),Nat.sub_zero]
def FW{l:List (Option nk)}{id:Nat}{o:aX}(h:(qM l).get id=some o):o.oU=true:=by
 rw[oT]at h;cases hl:(l[id]?).join with
 |none=>rw[hl]at h;cases h
 |some x=>rw[hl]at h;cases h;rfl
def Ws{l:List (Option nk)}{w:World}(h:∀(i:Nat) (x:nk),(l[i]?).join=some x->ua (np l) w x.cells x.p)(m:Nat):Rel m (np l) (qM l) w where
 obj:=λid o ho=>by
  rw[oT]at ho;cases hl:(l[id]?).join with
  |none=>rw[hl]at ho;cases ho
  |some x=>rw[hl]at ho;cases ho;exact⟨x.p,by show(if(0:Nat)=0 then _ else _)=_;rw[ad rfl,hl];rfl,h id x hl⟩
 sep:=λid id' o o' g g' p p' h1 h2 _ _ _ _ _=>.inr ⟨FW h1,FW h2⟩
 wf:=λid hid=>by have U4:l.length<=id:=hid;rw[oT,iY U4];rfl
 free:=λid g hid _=>by
  have U4:l.length<=id:=hid;unfold np;split
  ·rw[iY U4];rfl
  rfl
def IK{E:Env}(hE:uU E){f:FuncId}{args:List AV}{vs:List Value}{w:World}{l:List (Option nk)}(h:∀(i:Nat) (x:nk),(l[i]?).join=some x->ua (np l) w x.cells x.p)(ha:ARs (np l) args vs)
  (hc:C1 E f args (qM l) λv _=>v=.one (.b true)):Calls E.P f vs.toArray w λe w'=>e=.returned (.bool true)/\Grown w w':=by
 obtain⟨n,v,H',h1,rfl⟩:=hc;refine(callsIn_wide (n:=0)).1 (((vG hE (IU hE) n).call (m:=H'.nx) (ai _) (Ws h _) ha h1 λx hx=>?_).mono λe w' he=>?_)
 ·rw[List.mem_singleton.1 hx];exact ai _
 obtain⟨u,rfl,x,hx,β',har,_,I1⟩:=he;rw[List.mem_singleton.1 hx]at har I1;have hu:u=.bool true:=har;subst hu;refine⟨rfl,I1.os,I1.tape,I1.output,I1.size,λb hb=>I1.frame b hb λid o g p ho hg _=>?_⟩;have:=FW ho;rw[hg.2]at this;cases this
def dA(H:Hp)(v:AC)(e:TypeId)(sz n:Nat)(cells:List AC)(r:Option Nat):Prop:=
 (v=.o .nilS/\n=0/\cells=[]/\r=none)\/∃id lo gen,r=some id/\v=.o (.sl id gen 0 n sz)/\H.get id=some (.arr cells e lo gen)/\lo<=gen/\cells.length=n*sz/\id<H.nx
def dA.fr{H H':Hp}{v:AC}{e:TypeId}{sz n:Nat}{cells:List AC}{r:Option Nat}{X:Nat->Prop}(h:dA H v e sz n cells r)(hf:Fr X H H')(hx:∀i,r=some i->¬X i):dA H' v e sz n cells r:=by
 rcases h with h|⟨id,lo,gen,h1,h2,h3,h4,h5,h6⟩
 ·exact .inl h
 exact .inr ⟨id,lo,gen,h1,h2,(hf.get id h6 (hx id h1)).trans h3,h4,h5,ax h6 hf.nx⟩
def dA.lt{H:Hp}{v:AC}{e:TypeId}{sz n:Nat}{cells:List AC}{r:Option Nat}(h:dA H v e sz n cells r):ltV (.one v) H.nx:=by
 rcases h with⟨rfl,_⟩|⟨id,lo,gen,_,rfl,_,_,_,h6⟩
 ·rw[zy];trivial
 rw[xB];exact h6
def dA.slc{H:Hp}{v:AC}{e:TypeId}{sz n:Nat}{cells:List AC}{r:Option Nat}(h:dA H v e sz n cells r):SlC H v sz n cells:=by
 rcases h with⟨rfl,rfl,rfl,_⟩|⟨id,lo,gen,_,rfl,h3,h4,h5,h6⟩
 ·exact⟨by simp,.inl ⟨rfl,rfl⟩⟩
 refine⟨h5,.inr ⟨id,gen,0,rfl,h6,cells,by rw[h3];exact cH h4 (ai _),aa,?_⟩⟩;rw[List.drop_zero,iy aa]
def mo{H:Hp}{id g off len sz:Nat}{cells:List AC}(h:rowOf (H.get id) g=some cells)(hl:off+len*sz<=cells.length):lO H sz (.one (.o (.sl id g off len sz)))=some (len,(cells.drop off).take (len*sz)):=by
 have hr:iS H id g off (Nat.mul len sz) (Nat.mul len sz)=some ((cells.drop off).take (len*sz)):=by unfold iS;rw[PK,h];simp only[Option.bind_some];rw[ad ⟨ai _,hl⟩];rfl
 show(match Nat.beq sz sz,iS H id g off (Nat.mul len sz) (Nat.mul len sz)with|true,some c=>some (len,c)|_,_=>none)=_;rw[cZ,hr]
def ud{P:Program}{H:Hp}{t e:TypeId}{sz by_ n k:Nat}{z:Value}{v:AC}{x:AV}{cells c:List AC}{r:Option Nat}(he:cG P t=some (e,sz))(hb:dB P e=some by_)(hz:aW P e=some z)(Q1:(ofValue z).cells.length=sz)(B2:sz≠0)
  (ho:dA H v e sz n cells r) (hs:lO H sz x=some (k,c)) (hk:k≠0) (hc:c.length=k*sz) (h1:n+k<=140737488355328) (h2:(n+k)*by_<=140737488355328):
  ∃v' H' r',bM P H t (.one v) x=.val (.one v') H'/\dA H' v' e sz (n+k) (cells++c) (some r')/\Fr (λi=>r=some i) H H'/\(r=some r'\/r=none/\r'=H.nx):=by
 have e1:Nat.beq sz 0=false:=by
  cases h:Nat.beq sz 0 with
  |false=>rfl
  |true=>exact absurd (aO h) B2
 have e2:Nat.beq k 0=false:=by
  cases h:Nat.beq k 0 with
  |false=>rfl
  |true=>exact absurd (aO h) hk
 have e3:both (!Nat.beq sz 0) (Nat.beq (cA (ofValue z).cells) sz)=true:=by rw[e1,bZ,Q1,cZ];rfl
 have step:bM P H t (.one v) x=fC H e sz by_ k c (.one v):=by unfold bM;simp only[he,hb,hz,nd,e3,aN,hs]
 rcases ho with⟨rfl,rfl,rfl,rfl⟩|⟨id,lo,gen,rfl,rfl,h3,h4,h5,h6⟩
 ·refine⟨.o (.sl H.nx 0 0 k sz),H.new (.arr c e 0 0),H.nx,?_,.inr ⟨H.nx,0,0,rfl,by rw[Nat.zero_add],by rw[aC rfl,iz],ai _,by rw[iz,Nat.zero_add,hc],ba _⟩,(Fr.refl _).new _,.inr ⟨rfl,rfl⟩⟩;rw[step];show Eng.ifE (Nat.beq k 0) _ (aN (both (Nat.ble k 140737488355328) (Nat.ble (Nat.mul k by_) 140737488355328)) _ _)=_;rw[Nat.zero_add]at h1 h2;have f2:Nat.ble (Nat.mul k by_) 140737488355328=true:=bU h2;rw[e2,bU h1,f2];rfl
 refine⟨.o (.sl id (gen+1) 0 (n+k) sz),H.mod id (.arr (cells++c) e lo (gen+1)),id,?_,.inr ⟨id,lo,gen+1,rfl,rfl,aq rfl,tC h4,by rw[aI,h5,hc,lF],h6⟩,(Fr.refl _).mod _ (.inr rfl),.inl rfl⟩;rw[step];show qN (H.get id) _ _=_;rw[h3];show aN (both (Nat.beq sz sz) (both (Nat.beq e e) (both (Nat.ble lo gen) (both (Nat.ble gen gen) (both (Nat.ble (Nat.add 0 (Nat.mul n sz)) (cA cells)) (both (Nat.ble (Nat.add n k) 140737488355328) (Nat.ble (Nat.mul (Nat.add n k) by_) 140737488355328))))))) _
  (Eng.ifE (Nat.beq k 0) _ (Eng.ifE (both (Nat.beq gen gen) (both (Nat.beq 0 0) (Nat.beq (Nat.mul n sz) (cA cells)))) _ _))=_
 have g5:Nat.ble (Nat.add 0 (Nat.mul n sz)) (cA cells)=true:=by rw[bZ,h5];exact bU (by show 0+n*sz<=n*sz;omega)
 have g6:Nat.ble (Nat.add n k) 140737488355328=true:=bU h1;have g7:Nat.ble (Nat.mul (Nat.add n k) by_) 140737488355328=true:=bU h2;have g8:Nat.beq (Nat.mul n sz) (cA cells)=true:=by rw[bZ,h5];exact cZ (n*sz)
 rw[cZ,cZ,cZ,bU h4,bU (ai gen),g5,g6,g7,g8,e2,kz];rfl
end Go.Eng
end

/- A part of the proof: EngMono, EngWp, EngSym, EngSymD, EngSymO, EngSymL, EngSeq, EngSeq2, EngSeq3, EngEq, EngArgs, EngOwn. No conditions. -/
import Derived.Test.YtgepceljhelekaaGreatPFAc
import Derived.IntWalk
set_option maxRecDepth 100000
set_option maxHeartbeats 64000000
set_option linter.all false
noncomputable section
namespace Go.Eng
open Go
def RLe{α:Type}(r r':R α):Prop:=∀o,r=.ok o->r'=.ok o
section
variable{α γ:Type}
theorem RLe.refl(r:R α):RLe r r:=λ_ h=>h
theorem RLe.bad(s:String)(r:R α):RLe (.bad s) r:=λ_ h=>by cases h
theorem RLe.cr{f f':α->R γ}:∀(l:List α),(∀x∈l,RLe (f x) (f' x))->RLe (Eng.cr f l) (Eng.cr f' l)
 |[],_=>RLe.refl _
 |[x],h=>h x (List.mem_singleton.2 rfl)
 |x::y::l,h=>by
  have h1:=h x (List.mem_cons_self ..);have h2:=RLe.cr (y::l) λz hz=>h z (List.mem_cons_of_mem _ hz);intro o ho;have D3:xf (f x) (Eng.cr f (y::l))=.ok o:=ho;show xf (f' x) (Eng.cr f' (y::l))=.ok o;cases ha:f x with
  |bad s=>rw[ha]at D3;cases D3
  |ok oa=>
   cases hb:Eng.cr f (y::l)with
   |bad s=>rw[ha,hb]at D3;cases D3
   |ok ob=>
    rw[ha,hb]at D3;rw[h1 oa ha,h2 ob hb];exact D3
theorem RLe.bind{r r':R α}{f f':α->R γ}(hr:RLe r r')(hf:∀x,RLe (f x) (f' x)):RLe (r.bind f) (r'.bind f'):=by
 cases r with
 |bad s=>exact RLe.bad _ _
 |ok l=>
  rw[hr l rfl];exact RLe.cr l λx _=>hf x
theorem RLe.ifE{b:Bool}{x x' y y':R α}(hx:RLe x x')(hy:RLe y y'):RLe (Eng.ifE b x y) (Eng.ifE b x' y'):=by cases b with|true=>exact hx|false=>exact hy
theorem RLe.aw{o:Option γ}{e e':R α}{f f':γ->R α}(he:RLe e e')(h:∀a,RLe (f a) (f' a)):RLe (Eng.aw o e f) (Eng.aw o e' f'):=by cases o with|none=>exact he|some a=>exact h a
end
def RLe.join{h:Hp}{r r':R (AV×Hp)}(hr:RLe r r'):RLe (tt h r) (tt h r'):=by
 cases r with
 |bad s=>exact RLe.bad _ _
 |ok l=>rw[hr l rfl];exact RLe.refl _
def RLe.kH{b:Bool}{h:Hp}{r r':R (ak×aa×Hp)}(hr:RLe r r'):RLe (kH b h r) (kH b h r'):=by
 cases b with
 |false=>exact hr
 |true=>
  cases r with
  |bad s=>exact RLe.bad _ _
  |ok l=>rw[hr l rfl];exact RLe.refl _
structure PA(rec rec':Rec):Prop where
 code:∀r c a h,RLe (rec.code r c a h) (rec'.code r c a h)
 call:∀f l h,RLe (rec.call f l h) (rec'.call f l h)
def Hg{tm:PT AV}{g:Option (Option Tmp×Bool)}{y y' n n':R (aa×Hp)}(hy:RLe y y')(hn:RLe n n'):RLe (bB tm g y n) (bB tm g y' n'):=by
 unfold bB;refine RLe.aw hy λp=>RLe.aw hn λt=>RLe.aw hn λv=>?_;cases v with
 |one c=>cases c with
  |b b=>exact RLe.ifE (RLe.ifE hy hn) (RLe.ifE hn hy)
  |i _ _=>exact hn
  |o _=>exact RLe.refl _
 |agg _=>exact hn
 |tup _=>exact hn
 |any=>exact RLe.refl _
def Ca{e:ak}{n n' r r':R (ak×aa×Hp)}{x x':Nat->R (ak×aa×Hp)}(hn:RLe n n')(hx:∀i,RLe (x i) (x' i))(hr:RLe r r'):RLe (exE e n x r) (exE e n' x' r'):=by
 cases e with
 |normal=>exact hn
 |exit i=>exact hx i
 |ret=>exact hr
def ji{a:aa}{dst:Option Tmp}{v:AV}{h:Hp}{k k':aa->Hp->R (aa×Hp)}(hk:∀a h,RLe (k a h) (k' a h)):RLe (fA a dst v h k) (fA a dst v h k'):=
 RLe.aw (hk _ _) λ_=>RLe.ifE (hk _ _) (RLe.refl _)
section
variable{E:Env}{rec rec':Rec}(hr:PA rec rec')
include hr
theorem EC{id:Nat}{body:Code}(x:ak×aa×Hp):RLe (eo rec id body x) (eo rec' id body x):=by
 unfold eo;split
 ·exact RLe.bind (hr.code _ _ _ _) λy=>RLe.refl _
 exact RLe.refl _
theorem uQ{id:Nat}{args:List AV}{h:Hp}:RLe (fK rec id args h) (fK rec' id args h):=by
 unfold fK;split
 ·exact RLe.ifE (RLe.bind (hr.code _ _ _ _) λx=>EC hr x) (RLe.refl _)
 exact RLe.refl _
theorem si{h:Hp}{n:ab}:RLe (je E rec h n) (je E rec' h n):=by
 cases n with
 |val v h'=>exact RLe.refl _
 |om l=>exact RLe.refl _
 |enter f args=>exact RLe.aw (RLe.aw (hr.call _ _ _) λ_=>RLe.refl _) λ_=>RLe.refl _
 |round id args=>exact uQ hr
 |bad s=>exact RLe.refl _
theorem PG{a:aa}{dst:Option Tmp}{h:Hp}{k k':aa->Hp->R (aa×Hp)}{n:ab}(hk:∀a h,RLe (k a h) (k' a h)):RLe (lG E rec a dst h k n) (lG E rec' a dst h k' n):=by
 cases n with
 |val v h'=>exact ji hk
 |om l=>exact RLe.cr l λx _=>ji hk
 |enter f args=>exact RLe.bind (RLe.aw (RLe.aw (hr.call _ _ _) λ_=>RLe.refl _) λ_=>RLe.refl _) λx=>ji hk
 |round id args=>exact RLe.bind (uQ hr) λx=>ji hk
 |bad s=>exact RLe.refl _
theorem mu:∀(l:List OF)(a:aa)(h:Hp),RLe (dI E rec l a h) (dI E rec' l a h)
 |[],_,_=>RLe.refl _
 |o::l,a,h=>Hg (PG hr λa h=>mu l a h) (ji λa h=>mu l a h)
omit hr in
theorem Qi{kk j:Nat}{a:aa}{dst:Option Tmp}{h:Hp}{sub:PT aJ}{us did:List Did}{K K':List Did->aa->Hp->R (aa×Hp)}{x x':R (AV×Hp)}(hx:RLe x x')(hK:∀d a h,RLe (K d a h) (K' d a h)):
  RLe (vM kk j a dst h sub us did K x) (vM kk j a dst h sub us did K' x'):=by
 cases x with
 |bad s=>exact RLe.bad _ _
 |ok l=>
  rw[hx l rfl];cases l with
  |nil=>exact RLe.refl _
  |cons y l=>
   cases l with
   |cons _ _=>exact RLe.refl _
   |nil=>exact RLe.ifE (ji λa h=>hK _ a h) (RLe.refl _)
theorem ny:∀(l:List OF)(j:Nat)(ms:List Nat)(did:List Did)(a:aa)(h:Hp),RLe (cJ E rec l j ms did a h) (cJ E rec' l j ms did a h)
 |[],_,_,_,_,_=>RLe.refl _
 |o::l,j,[],did,a,h=>RLe.refl _
 |o::l,j,m::ms,did,a,h=>Hg (Qi (si hr) λd a h=>ny l _ ms d a h) (ji λa h=>ny l _ ms did a h)
theorem Ih{r:Option Nat}{f:OpF}{ps:List Tmp}{as bo:Code}{a:aa}{h:Hp}:RLe (gA E rec r f ps as bo a h) (gA E rec' r f ps as bo a h):=by
 unfold gA;split
 ·exact RLe.refl _
 split
 ·exact RLe.ifE (RLe.bind (hr.call _ _ _) λx=>RLe.refl _) (RLe.refl _)
 exact RLe.refl _
theorem ef:∀(c:Code)(r:Option Nat)(a:aa)(h:Hp),RLe ((codeF E c).run rec r a h) ((codeF E c).run rec' r a h):=by
 intro c;induction c with
 |skip=>intro r a h;exact RLe.refl _
 |region id ops draw=>
  intro r a h;cases draw with
  |false=>exact RLe.bind (mu hr _ a h) λx=>RLe.refl _
  |true=>
   show RLe ((Eng.ifE (dP ops) (CF.mk λrec _ a h=>(cJ E rec (oN E.P ops) 0 (dM [] 0 ops.toList) [] a h).bind eI) (CF.mk λ_ _ _ _=>.bad "draw - slots")).run rec r a h)
    ((Eng.ifE (dP ops) (CF.mk λrec _ a h=>(cJ E rec (oN E.P ops) 0 (dM [] 0 ops.toList) [] a h).bind eI) (CF.mk λ_ _ _ _=>.bad "draw - slots")).run rec' r a h)
   cases dP ops with
   |false=>exact RLe.refl _
   |true=>exact RLe.bind (ny hr _ _ _ _ a h) λx=>RLe.refl _
 |seq x y hx hy=>
  intro r a h;exact RLe.bind (hx r a h) λz=>Ca (hy r _ _) (λ_=>RLe.refl _) (RLe.refl _)
 |cond c x y hx hy=>
  intro r a h;show RLe (dO ((opF c).ev a.tm) (.bad "cond") λb=>Eng.ifE b ((codeF E x).run rec r a h) ((codeF E y).run rec r a h)) (dO ((opF c).ev a.tm) (.bad "cond") λb=>Eng.ifE b ((codeF E x).run rec' r a h) ((codeF E y).run rec' r a h))
  cases(opF c).ev a.tm with
  |one q=>
   cases q with
   |b b=>exact RLe.ifE (hx r a h) (hy r a h)
   |i _ _=>exact RLe.refl _
   |o _=>exact RLe.refl _
  |agg _=>exact RLe.refl _
  |tup _=>exact RLe.refl _
  |any=>exact RLe.refl _
 |block id x hx=>
  intro r a h;exact RLe.kH (RLe.bind (hx r a h) λz=>RLe.refl _)
 |loop x hx=>
  intro r a h;exact RLe.bind (hx r a h) λz=>Ca (hr.code _ _ _ _) (λ_=>RLe.refl _) (RLe.refl _)
 |rangeFunc f ps as bo _ _=>intro r a h;exact Ih hr
 |exit id=>intro r a h;exact RLe.refl _
 |scope x hx=>intro r a h;exact hx r a h
 |label l=>intro r a h;exact RLe.refl _
 |goto l=>intro r a h;exact RLe.refl _
 |ret=>intro r a h;exact RLe.refl _
 |refuse x=>intro r a h;exact RLe.refl _
theorem Py{f:FuncId}{args:List AV}{h:Hp}:RLe (jG E rec f args h) (jG E rec' f args h):=by
 unfold jG RW;split
 ·split
  ·exact RLe.ifE (RLe.join (RLe.bind (ef hr _ none _ h) λx=>RLe.refl _)) (RLe.refl _)
  exact RLe.refl _
 exact RLe.refl _
end
def se(E:Env):∀n,PA (eval E n) (eval E (n+1))
 |0=>⟨λ_ _ _ _=>RLe.bad _ _,λ_ _ _=>RLe.bad _ _⟩
 |n+1=>⟨λr c a h=>ef (se E n) c r a h,λf l h=>Py (se E n)⟩
def dh(E:Env){n:Nat}:∀{k:Nat},n≤k->PA (eval E n) (eval E k)
 |0,h=>by
  have:n=0:=by omega
  subst this;exact⟨λ_ _ _ _=>RLe.refl _,λ_ _ _=>RLe.refl _⟩
 |k+1,h=>by
  by_cases e:n=k+1
  ·subst e;exact⟨λ_ _ _ _=>RLe.refl _,λ_ _ _=>RLe.refl _⟩
  have h1:=dh E (n:=n) (k:=k) (by omega);have h2:=se E k;exact⟨λr c a h o ho=>h2.code r c a h o (h1.code r c a h o ho),λf l h o ho=>h2.call f l h o (h1.call f l h o ho)⟩
def C1(E:Env)(f:FuncId)(args:List AV)(H:Hp)(Q:AV->Hp->Prop):Prop:=∃n v H',(eval E n).call f args H=.ok [(v,H')]∧Q v H'
def R1(E:Env)(r:Option Nat)(c:Code)(A:aa)(H:Hp)(Q:ak->aa->Hp->Prop):Prop:=∃n e A' H',(codeF E c).run (eval E n) r A H=.ok [(e,A',H')]∧Q e A' H'
def O1(E:Env)(l:List OF)(A:aa)(H:Hp)(Q:aa->Hp->Prop):Prop:=∃n A' H',dI E (eval E n) l A H=.ok [(A',H')]∧Q A' H'
def D1(E:Env)(l:List OF)(j:Nat)(ms:List Nat)(did:List Did)(A:aa)(H:Hp)(Q:aa->Hp->Prop):Prop:=∃n A' H',cJ E (eval E n) l j ms did A H=.ok [(A',H')]∧Q A' H'
def N1(E:Env)(H:Hp)(n:ab)(Q:AV->Hp->Prop):Prop:=∃k v H',je E (eval E k) H n=.ok [(v,H')]∧Q v H'
section
variable{E:Env}
theorem C1.mono{f:FuncId}{args:List AV}{H:Hp}{Q Q':AV->Hp->Prop}(h:C1 E f args H Q)(hq:∀v H',Q v H'->Q' v H'):C1 E f args H Q':=
 let ⟨n,v,H',h1,h2⟩:=h;⟨n,v,H',h1,hq _ _ h2⟩
theorem R1.mono{r:Option Nat}{c:Code}{A:aa}{H:Hp}{Q Q':ak->aa->Hp->Prop}(h:R1 E r c A H Q)(hq:∀e A' H',Q e A' H'->Q' e A' H'):R1 E r c A H Q':=
 let ⟨n,e,A',H',h1,h2⟩:=h;⟨n,e,A',H',h1,hq _ _ _ h2⟩
theorem O1.mono{l:List OF}{A:aa}{H:Hp}{Q Q':aa->Hp->Prop}(h:O1 E l A H Q)(hq:∀A' H',Q A' H'->Q' A' H'):O1 E l A H Q':=
 let ⟨n,A',H',h1,h2⟩:=h;⟨n,A',H',h1,hq _ _ h2⟩
def Thn(K:aa->Hp->Prop)(Q:ak->aa->Hp->Prop):ak->aa->Hp->Prop
 |.normal,A,H=>K A H
 |.exit i,A,H=>Q (.exit i) A H
 |.ret,A,H=>Q .ret A H
def InB(id:Nat)(Q:ak->aa->Hp->Prop):ak->aa->Hp->Prop
 |.normal,A,H=>Q .normal A H
 |.exit i,A,H=>if i=id then Q .normal A H else Q (.exit i) A H
 |.ret,A,H=>Q .ret A H
variable{r:Option Nat}{A:aa}{H:Hp}{Q:ak->aa->Hp->Prop}
theorem R1.skip(h:Q .normal A H):R1 E r .skip A H Q:=⟨0,_,_,_,rfl,h⟩
theorem R1.exit{id:Nat}(h:Q (.exit id) A H):R1 E r (.exit id) A H Q:=⟨0,_,_,_,rfl,h⟩
theorem R1.ret(h:Q .ret A H):R1 E r .ret A H Q:=⟨0,_,_,_,rfl,h⟩
theorem R1.scope{c:Code}(h:R1 E r c A H Q):R1 E r (.scope c) A H Q:=h
theorem R1.seq{x y:Code}(h:R1 E r x A H (Thn (λA H=>R1 E r y A H Q) Q)):R1 E r (.seq x y) A H Q:=by
 obtain⟨n,e,A1,H1,h1,h2⟩:=h
 cases e with
 |normal=>
  obtain⟨k,e2,A2,H2,h3,h4⟩:=h2
  refine⟨max n k,e2,A2,H2,?_,h4⟩
  have a1:=ef (dh E (Nat.le_max_left n k)) x r A H _ h1;have a2:=ef (dh E (Nat.le_max_right n k)) y r A1 H1 _ h3;show((codeF E x).run (eval E (max n k)) r A H).bind (rZ (codeF E y) (eval E (max n k)) r)=_
  rw[a1];exact a2
 |exit i=>
  refine⟨n,_,A1,H1,?_,h2⟩
  show((codeF E x).run (eval E n) r A H).bind (rZ (codeF E y) (eval E n) r)=_
  rw[h1];rfl
 |ret=>
  refine⟨n,_,A1,H1,?_,h2⟩
  show((codeF E x).run (eval E n) r A H).bind (rZ (codeF E y) (eval E n) r)=_
  rw[h1];rfl
theorem R1.cond{c:Operand}{x y:Code}{b:Bool}(hc:ev A.tm c=.one (.b b))(h:R1 E r (if b=true then x else y) A H Q):R1 E r (.cond c x y) A H Q:=by
 obtain⟨n,e,A1,H1,h1,h2⟩:=h
 refine⟨n,e,A1,H1,?_,h2⟩
 show dO (ev A.tm c) (.bad "cond") (λb=>Eng.ifE b ((codeF E x).run (eval E n) r A H) ((codeF E y).run (eval E n) r A H))=_
 rw[hc];cases b with
 |true=>exact h1
 |false=>exact h1
theorem NZ(b:Bool)(h:Hp)(x:ak×aa×Hp):kH b h (.ok [x])=.ok [x]:=by cases b<;>rfl
theorem R1.block{id:Nat}{c:Code}(h:R1 E r c A H (InB id Q)):R1 E r (.block id c) A H Q:=by
 obtain⟨n,e,A1,H1,h1,h2⟩:=h
 have key:∀e2,jE id (e,A1,H1)=.ok [(e2,A1,H1)]->Q e2 A1 H1->R1 E r (.block id c) A H Q:=λe2 a b=>⟨n,e2,A1,H1,by
  show kH (E.jn id) H (((codeF E c).run (eval E n) r A H).bind (jE id))=_;rw[h1];show kH (E.jn id) H (jE id (e,A1,H1))=_;rw[a,NZ],b⟩
 cases e with
 |normal=>exact key .normal rfl h2
 |ret=>exact key .ret rfl h2
 |exit i=>
  have F8:if i=id then Q .normal A1 H1 else Q (.exit i) A1 H1:=h2;by_cases hi:i=id
  ·rw[zB0 hi]at F8;refine key .normal ?_ F8;show Eng.ifE (Nat.beq i id) (R.ok [((.normal:ak),A1,H1)]) (R.ok [(.exit i,A1,H1)])=_;rw[hi,Nat.beq_refl];rfl
  rw[zB1 hi]at F8;refine key (.exit i) ?_ F8;show Eng.ifE (Nat.beq i id) (R.ok [((.normal:ak),A1,H1)]) (R.ok [(.exit i,A1,H1)])=_;have:Nat.beq i id=false:=by
   cases hb:Nat.beq i id with
   |false=>rfl
   |true=>exact absurd (zA3 hb) hi
  rw[this];rfl
theorem R1.round{c:Code}(h:R1 E r c A H (Thn (λA H=>R1 E r (.loop c) A H Q) Q)):R1 E r (.loop c) A H Q:=by
 obtain⟨n,e,A1,H1,h1,h2⟩:=h
 cases e with
 |normal=>
  obtain⟨k,e2,A2,H2,h3,h4⟩:=h2
  refine⟨max n k+1,e2,A2,H2,?_,h4⟩
  have a1:=ef (dh E (show n≤max n k+1 by omega)) c r A H _ h1;have a2:(eval E (max n k+1)).code r (.loop c) A1 H1=.ok [(e2,A2,H2)]:=ef (dh E (Nat.le_max_right n k)) (.loop c) r A1 H1 _ h3;show((codeF E c).run (eval E (max n k+1)) r A H).bind (vU (eval E (max n k+1)) r c)=_
  rw[a1];exact a2
 |exit i=>
  refine⟨n,_,A1,H1,?_,h2⟩
  show((codeF E c).run (eval E n) r A H).bind (vU (eval E n) r c)=_
  rw[h1];rfl
 |ret=>
  refine⟨n,_,A1,H1,?_,h2⟩
  show((codeF E c).run (eval E n) r A H).bind (vU (eval E n) r c)=_
  rw[h1];rfl
theorem R1.loop{c:Code}(I:Nat->aa->Hp->Prop)(hI:∀k A H,I k A H->R1 E r c A H (Thn (λA' H'=>∃k',k'<k∧I k' A' H') Q)):∀(k:Nat){A:aa}{H:Hp},I k A H->R1 E r (.loop c) A H Q:=by
 intro k;induction k using Nat.strongRecOn with
 |ind k ih=>
  intro A H h;refine R1.round ((hI k A H h).mono λe A' H' hq=>?_);cases e with
  |normal=>obtain⟨k',hk,h'⟩:=hq;exact ih k' hk h'
  |exit i=>exact hq
  |ret=>exact hq
theorem R1.region{id:Nat}{ops:Array Oper}(h:O1 E (oN E.P ops) A H λA H=>Q .normal A H):R1 E r (.region id ops false) A H Q:=by
 obtain⟨n,A1,H1,h1,h2⟩:=h
 refine⟨n,.normal,A1,H1,?_,h2⟩
 show(dI E (eval E n) (oN E.P ops) A H).bind eI=_
 rw[h1];rfl
theorem R1.draw{id:Nat}{ops:Array Oper}(hs:dP ops=true)(h:D1 E (oN E.P ops) 0 (dM [] 0 ops.toList) [] A H λA H=>Q .normal A H):R1 E r (.region id ops true) A H Q:=by
 obtain⟨n,A1,H1,h1,h2⟩:=h
 refine⟨n,.normal,A1,H1,?_,h2⟩
 show(Eng.ifE (dP ops) (CF.mk λrec _ a h=>(cJ E rec (oN E.P ops) 0 (dM [] 0 ops.toList) [] a h).bind eI) (CF.mk λ_ _ _ _=>.bad "draw - slots")).run (eval E n) r A H=_
 rw[hs];show(cJ E (eval E n) (oN E.P ops) 0 (dM [] 0 ops.toList) [] A H).bind eI=_
 rw[h1];rfl
theorem N1.val{H H':Hp}{v:AV}{Q:AV->Hp->Prop}(h:Q v H'):N1 E H (.val v H') Q:=⟨0,v,H',rfl,h⟩
theorem N1.call{H:Hp}{f:FuncId}{args:List AV}{Q:AV->Hp->Prop}(hp:E.dQ f args=none)(hq:E.dZ f args H=none)(h:C1 E f args H Q):N1 E H (.enter f args) Q:=by
 obtain⟨n,v,H',h1,h2⟩:=h
 refine⟨n,v,H',?_,h2⟩
 show aw (E.dQ f args) (aw (E.dZ f args H) ((eval E n).call f args H) λx=>.ok [(x.1,H.mod x.2.1 x.2.2)]) (λv=>.ok [(v,H)])=_;rw[hp,hq];exact h1
theorem N1.dZ{H:Hp}{f:FuncId}{args:List AV}{x:AV×Nat×aJ}{Q:AV->Hp->Prop}(hp:E.dQ f args=none)(hq:E.dZ f args H=some x)(h:Q x.1 (H.mod x.2.1 x.2.2)):N1 E H (.enter f args) Q:=by
 refine⟨0,x.1,H.mod x.2.1 x.2.2,?_,h⟩
 show aw (E.dQ f args) (aw (E.dZ f args H) ((eval E 0).call f args H) λx=>.ok [(x.1,H.mod x.2.1 x.2.2)]) (λv=>.ok [(v,H)])=_;rw[hp,hq];rfl
theorem N1.dQ{H:Hp}{f:FuncId}{args:List AV}{v:AV}{Q:AV->Hp->Prop}(hp:E.dQ f args=some v)(h:Q v H):N1 E H (.enter f args) Q:=by
 refine⟨0,v,H,?_,h⟩
 show aw (E.dQ f args) (aw (E.dZ f args H) ((eval E 0).call f args H) λx=>.ok [(x.1,H.mod x.2.1 x.2.2)]) (λv=>.ok [(v,H)])=_;rw[hp];rfl
def bI(A:aa)(d:Option Tmp)(v:AV):aa:=aw d A λd=>A.put d v
def aK(d:Option Tmp)(nt:Nat):Bool:=match d with|none=>true|some d=>Nat.blt d nt
theorem iB{a:aa}{d:Option Tmp}{v:AV}{h:Hp}{k:aa->Hp->R (aa×Hp)}(hd:aK d a.nt=true):fA a d v h k=k (bI a d v) h:=by
 cases d with
 |none=>rfl
 |some d=>
  show Eng.ifE (Nat.blt d a.nt) (k (a.put d v) h) (.bad "slot")=_
  have:Nat.blt d a.nt=true:=hd;rw[this];rfl
theorem O1.nil{Q:aa->Hp->Prop}(h:Q A H):O1 E [] A H Q:=⟨0,A,H,rfl,h⟩
theorem O1.cons{g:Option (Option Tmp×Bool)}{d:Option Tmp}{f:SF}{o:Oper}{l:List OF}{Q:aa->Hp->Prop}(hg:∀y n:R (aa×Hp),bB A.tm g y n=y)(hd:aK d A.nt=true)
  (h:N1 E H (f.run A.tm H) λv H'=>O1 E l (bI A d v) H' Q):O1 E (⟨g,d,f,o⟩::l) A H Q:=by
 obtain⟨n,v,H1,h1,k,A2,H2,h2,h3⟩:=h
 refine⟨max n k,A2,H2,?_,h3⟩
 have a1:=si (E:=E) (dh E (Nat.le_max_left n k)) _ h1;have a2:=mu (E:=E) (dh E (Nat.le_max_right n k)) l (bI A d v) H1 _ h2;show bB A.tm g (lG E (eval E (max n k)) A d H (dI E (eval E (max n k)) l) (f.run A.tm H)) (fA A d aD H (dI E (eval E (max n k)) l))=_;rw[hg];have e:lG E (eval E (max n k)) A d H (dI E (eval E (max n k)) l) (f.run A.tm H)=(je E (eval E (max n k)) H (f.run A.tm H)).bind λx=>fA A d x.1 x.2 (dI E (eval E (max n k)) l):=by
  cases f.run A.tm H<;>rfl
 rw[e,a1];show fA A d v H1 (dI E (eval E (max n k)) l)=_;rw[iB hd];exact a2
theorem O1.NW{g:Option (Option Tmp×Bool)}{d:Option Tmp}{f:SF}{o:Oper}{l:List OF}{Q:aa->Hp->Prop}(hg:∀y n:R (aa×Hp),bB A.tm g y n=n)(hd:aK d A.nt=true)
  (h:O1 E l (bI A d aD) H Q):O1 E (⟨g,d,f,o⟩::l) A H Q:=by
 obtain⟨k,A2,H2,h2,h3⟩:=h
 refine⟨k,A2,H2,?_,h3⟩
 show bB A.tm g (lG E (eval E k) A d H (dI E (eval E k) l) (f.run A.tm H)) (fA A d aD H (dI E (eval E k) l))=_;rw[hg,iB hd];exact h2
theorem C1.Vt{f:FuncId}{fn:Func}{c:Code}{args:List AV}{Q:AV->Hp->Prop}(hf:E.P.funcs[f]?=some fn)(hb:fn.body=some c)(hn:args.length≤fn.ntmps)(X7:fn.ntmps≤1048576)
  (h:R1 E none c ⟨setArgs args 0 .leaf,fn.ntmps,[]⟩ H λe A' H'=>∃v H2,aC E fn.results.toList (e,A',H')=.ok [(v,H2)]∧Q v H2):C1 E f args H Q:=by
 obtain⟨n,e,A',H',h1,v,H2,h2,h3⟩:=h
 refine⟨n+1,v,H2,?_,h3⟩
 show jG E (eval E n) f args H=_;unfold jG RW;rw[hf];simp only[hb];show Eng.ifE (both (Nat.ble (pR args) fn.ntmps) (Nat.ble fn.ntmps 1048576)) (tt H (((codeF E c).run (eval E n) none ⟨setArgs args 0 .leaf,fn.ntmps,[]⟩ H).bind (aC E fn.results.toList))) (.bad "too many arguments")=_
 have e1:Nat.ble (pR args) fn.ntmps=true:=zA5 hn;have e2:Nat.ble fn.ntmps 1048576=true:=zA5 X7;rw[e1,e2];show tt H (((codeF E c).run (eval E n) none ⟨setArgs args 0 .leaf,fn.ntmps,[]⟩ H).bind (aC E fn.results.toList))=_;rw[h1];have e3:R.bind (R.ok [(e,A',H')]) (aC E fn.results.toList)=aC E fn.results.toList (e,A',H'):=rfl;rw[e3,h2];rfl
end
def slot(tm:PT AV)(t:Nat):AV:=aw (tm.get t) aD λv=>v
def Mn(tm:PT AV)(f:FuncId):ev tm (.func f)=.one (.o (.clo f [])):=rfl
def Sj(tm:PT AV)(k:IntKind)(n:Int):ev tm (.const (.int k n))=.one (.i k n):=rfl
def KQ(tm:PT AV)(b:Bool):ev tm (.const (.bool b))=.one (.b b):=rfl
def SC(tm:PT AV)(s:ByteArray):ev tm (.const (.string s))=.one (.o (.str s.data.toList)):=rfl
def NC(tm:PT AV):ev tm (.const (.slice none 0 0))=.one (.o .nilS):=rfl
def ae(A:aa)(d t:Nat)(v:AV):slot (bI A (some d) v).tm t=if t=d then v else slot A.tm t:=by
 show aw ((A.tm.set d v).get t) aD (λv=>v)=_;rw[PT.dv];by_cases h:t=d
 ·subst h;rw[zB0 rfl,zB0 rfl];rfl
 rw[zB1 h,zB1 h];rfl
def zU(A:aa)(v:AV):bI A none v=A:=rfl
def az(A:aa)(d:Option Tmp)(v:AV):(bI A d v).nt=A.nt:=by cases d<;>rfl
def al(A:aa)(d:Option Tmp)(v:AV):(bI A d v).dfr=A.dfr:=by cases d<;>rfl
def sY:∀(l:List AV)(k:Nat)(tm:PT AV)(t:Nat),k+l.length≤1048576->(setArgs l k tm).get t=if k≤t∧t<k+l.length then l[t-k]? else tm.get t
 |[],k,tm,t,_=>by
  show tm.get t=_;rw[zB1 (by simp only[List.length_nil];omega)]
 |v::l,k,tm,t,h=>by
  simp only[List.length_cons]at h;show(setArgs l (k+1) (tm.set k v)).get t=_
  rw[sY l (k+1) (tm.set k v) t (by omega),PT.nU _ _ _ _ (by omega)];simp only[List.length_cons];by_cases h1:t=k
  ·subst h1;rw[zB1 (by omega),zB0 rfl,zB0 (by omega)];simp
  by_cases h2:k+1≤t∧t<k+1+l.length
  ·rw[zB0 h2,zB0 (by omega)];have:t-k=(t-(k+1))+1:=by omega
   rw[this];simp
  rw[zB1 h2,zB1 h1,zB1 (by omega)]
def NG(l:List AV)(t:Nat)(h:l.length≤1048576):slot (setArgs l 0 .leaf) t=(l[t]?).getD aD:=by
 unfold slot;rw[sY l 0 .leaf t (by omega)];by_cases h1:t<l.length
 ·rw[zB0 ⟨Nat.zero_le _,by omega⟩,Nat.sub_zero,zB4 h1];rfl
 rw[zB1 (by omega),List.getElem?_eq_none (by omega)];rfl
section
variable{P:Program}{tm:PT AV}{H:Hp}{d:Option Tmp}{ty:TypeId}{pos:String}{af:Array Edge}{g:Option (Nat×Bool)}
theorem BZ{α:Type}{o:Option α}{a:α}{s:String}{f:α->SF}(h:o=some a):(ndF o s f).run tm H=(f a).run tm H:=by subst h;rfl
theorem Ns(t:TypeId)(x:Operand){p:Bool×Nat}(h:loadT P t=some p):(aI P ⟨d,.load t x,ty,pos,af,g⟩).run tm H=cH H p.1 p.2 (ev tm x):=BZ h
theorem FR(t:TypeId)(x y:Operand){n:Nat}(h:aT P t=some n):(aI P ⟨d,.store t x y,ty,pos,af,g⟩).run tm H=im H n (ev tm y) (ev tm x):=BZ h
theorem ZY(f:Operand)(as:Array Operand)(ts:Array TypeId):(aI P ⟨d,.call ⟨.value f,as,ts⟩,ty,pos,af,g⟩).run tm H=mr P (ev tm f) (evs as.toList tm):=rfl
theorem aaa(x:Operand)(t:TypeId){k:Nat}(h:eR P t=some k):(aI P ⟨d,.call ⟨.builtin .len,#[x],#[t]⟩,ty,pos,af,g⟩).run tm H=cW H k (ev tm x):=BZ h
theorem MU:evs [] tm=[]:=rfl
theorem Dq(x:Operand)(l:List Operand):evs (x::l) tm=ev tm x::evs l tm:=rfl
end
section
variable{H:Hp}{alt:ab}
structure Fr(X:Nat->Prop)(H H':Hp):Prop where
 nx:H.nx≤H'.nx
 get:∀i,i<H.nx->¬X i->H'.get i=H.get i
 log:∃l,H'.log=l++H.log∧∀i∈l,H.nx≤i∨X i
abbrev Gr(H H':Hp):Prop:=Fr (λ_=>False) H H'
theorem Fr.refl{X:Nat->Prop}(H:Hp):Fr X H H:=⟨zA1 _,λ_ _ _=>rfl,[],rfl,λ_ h=>by cases h⟩
theorem Fr.trans{X:Nat->Prop}{H1 H2 H3:Hp}(h:Fr X H1 H2)(k:Fr (λi=>H1.nx≤i∨X i) H2 H3):Fr X H1 H3 where
 nx:=zA2 h.nx k.nx
 get:=λi hi hx=>by rw[k.get i (zA0 hi h.nx) (λh=>h.elim (by omega) hx),h.get i hi hx]
 log:=by
  obtain⟨l,e,hl⟩:=h.log
  obtain⟨l',e',J7⟩:=k.log
  refine⟨l'++l,by rw[e',e,List.append_assoc],λi hi=>?_⟩
  rcases List.mem_append.1 hi with hi|hi
  ·rcases J7 i hi with h1|h1
   ·exact .inl (zA2 h.nx h1)
   exact h1
  exact hl i hi
theorem Fr.mono{X Y:Nat->Prop}{H H':Hp}(h:Fr X H H')(hxy:∀i,X i->Y i):Fr Y H H':=⟨h.nx,λi hi hy=>h.get i hi λhx=>hy (hxy i hx),by
 obtain⟨l,e,hl⟩:=h.log
 exact⟨l,e,λi hi=>(hl i hi).imp id (hxy i)⟩⟩
theorem Fr.then{X Y:Nat->Prop}{H1 H2 H3:Hp}(h:Fr X H1 H2)(k:Fr Y H2 H3)(hy:∀i,Y i->H1.nx≤i∨X i):Fr X H1 H3:=h.trans (k.mono hy)
theorem Fr.gr{X:Nat->Prop}{H1 H2 H3:Hp}(h:Fr X H1 H2)(k:Gr H2 H3):Fr X H1 H3:=h.trans (k.mono λ_ h=>h.elim)
theorem Fr.new{X:Nat->Prop}{H H':Hp}(h:Fr X H H')(o:aJ):Fr X H (H'.new o)where
 nx:=zA2 h.nx (Nat.le_succ _)
 get:=λi hi hx=>by
  show(H'.t.set H'.nx o).get i=_
  rw[PT.dv,zB1 (by have:=h.nx;omega)];exact h.get i hi hx
 log:=h.log
theorem Fr.mod{X:Nat->Prop}{H H':Hp}(h:Fr X H H'){i:Nat}(o:aJ)(hi:H.nx≤i∨X i):Fr X H (H'.mod i o)where
 nx:=h.nx
 get:=λj hj hx=>by
  show(H'.t.set i o).get j=_
  have Z0:j≠i:=λe=>by subst e;exact hi.elim (by omega) hx
  rw[PT.dv,zB1 Z0];exact h.get j hj hx
 log:=by
  obtain⟨l,e,hl⟩:=h.log
  refine⟨i::l,by show i::H'.log=_;rw[e];rfl,λj hj=>?_⟩
  rcases List.mem_cons.1 hj with rfl|hj
  ·exact hi
  exact hl j hj
theorem Fr.none{H H':Hp}(h:Gr H H'){X:Nat->Prop}:Fr X H H':=Fr.mono h λ_ h=>h.elim
theorem MN{β:Type}(b:Bool)(e:β)(f:Bool->β):dO (.one (.b b)) e f=f b:=rfl
end
inductive GW where
 |yes
 |no
 |lost
def gw(g:Option (Option Tmp×Bool))(tm:PT AV):GW:=
 match g with
 |none=>.yes
 |some (none,_)=>.no
 |some (some t,w)=>match slot tm t with|.one (.b b)=>if b=w then .yes else .no|.tup _=>.no|_=>.lost
def CN(E:Env)(H:Hp)(n:ab)(next:AV->Hp->Prop):Prop:=
 ∀lg,N1 E ⟨H.t,H.nx,lg⟩ n λv h'=>∀lg',(∀X,Fr X ⟨H.t,H.nx,lg⟩ h'->Fr X H ⟨h'.t,h'.nx,lg'⟩)->next v ⟨h'.t,h'.nx,lg'⟩
def CN.n1{E:Env}{H:Hp}{n:ab}{next:AV->Hp->Prop}(h:CN E H n next):N1 E H n next:=
 let ⟨k,v,H',h1,h2⟩:=h H.log;⟨k,v,H',h1,h2 H'.log λ_ h=>h⟩
def WT(E:Env)(A:aa)(d:Option Tmp)(next:aa->Hp->Prop)(H:Hp)(n:ab):Prop:=
 match n with
 |.val v H'=>next (bI A d v) H'
 |.enter f args=>CN E H (.enter f args) λv H'=>next (bI A d v) H'
 |.round id args=>CN E H (.round id args) λv H'=>next (bI A d v) H'
 |_=>False
def WU(E:Env)(o:Oper)(A:aa)(H:Hp)(next:aa->Hp->Prop)(g:GW):Prop:=
 match g with
 |.yes=>WT E A o.dst next H ((aI E.P o).run A.tm H)
 |.no=>next (bI A o.dst aD) H
 |.lost=>False
def WO(E:Env)(ops:List Oper)(Q:aa->Hp->Prop):List Oper->aa->Hp->Prop
 |[],A,H=>Q A H
 |o::l,A,H=>aK o.dst A.nt=true∧WU E o A H (WO E ops Q l) (gw (gOf ops o.guard) A.tm)
def WT.n1{E:Env}{A:aa}{d:Option Tmp}{next:aa->Hp->Prop}{H:Hp}{n:ab}(h:WT E A d next H n):N1 E H n λv H'=>next (bI A d v) H':=by
 cases n with
 |val v H'=>exact N1.val h
 |enter f args=>exact CN.n1 h
 |om l=>exact h.elim
 |round id args=>exact CN.n1 h
 |bad s=>exact h.elim
def nf(g:Option (Option Tmp×Bool))(tm:PT AV):(gw g tm=.yes∧∀a b:R (aa×Hp),bB tm g a b=a)∨(gw g tm=.no∧∀a b:R (aa×Hp),bB tm g a b=b)∨gw g tm=.lost:=by
 cases g with
 |none=>exact .inl ⟨rfl,λ_ _=>rfl⟩
 |some p=>
  obtain⟨t,w⟩:=p
  cases t with
  |none=>exact .inr (.inl ⟨rfl,λ_ _=>rfl⟩)
  |some t=>
   have e:∀a b:R (aa×Hp),bB tm (some (some t,w)) a b=aw (tm.get t) b λv=>AV.rec (motive:=λ_=>R (aa×Hp)) (λc=>acE c (λx=>ifE x (ifE w a b) (ifE w b a)) (λ_ _=>b) (λ_=>.bad "guard")) (λ_=>b) (λ_=>b) (.bad "guard") v:=λ_ _=>rfl
   have e2:gw (some (some t,w)) tm=match slot tm t with|.one (.b b)=>if b=w then .yes else .no|.tup _=>.no|_=>.lost:=rfl;unfold slot at e2;cases hv:tm.get t with
   |none=>rw[hv]at e2;exact .inr (.inl ⟨e2,λa b=>by rw[e,hv];rfl⟩)
   |some v=>
    rw[hv]at e2;cases v with
    |one c=>
     cases c with
     |b x=>
      have e3:gw (some (some t,w)) tm=if x=w then .yes else .no:=e2;cases x<;>cases w<;>first
       |exact .inl ⟨e3,λa b=>by rw[e,hv];rfl⟩
       |exact .inr (.inl ⟨e3,λa b=>by rw[e,hv];rfl⟩)
     |i _ _=>exact .inr (.inr e2)
     |o _=>exact .inr (.inr e2)
    |agg _=>exact .inr (.inr e2)
    |tup _=>exact .inr (.inl ⟨e2,λa b=>by rw[e,hv];rfl⟩)
    |any=>exact .inr (.inr e2)
def WO.o1{E:Env}{ops:List Oper}{Q:aa->Hp->Prop}:∀{l:List Oper}{A:aa}{H:Hp},WO E ops Q l A H->O1 E (fH E.P ops l) A H Q
 |[],A,H,h=>O1.nil h
 |o::l,A,H,h=>by
  obtain⟨hd,hg⟩:=h
  rcases nf (gOf ops o.guard) A.tm with⟨h1,h2⟩|⟨h1,h2⟩|h1
  ·rw[h1]at hg;obtain⟨n,v,H1,h3,h4⟩:=WT.n1 hg
   exact O1.cons h2 hd ⟨n,v,H1,h3,WO.o1 h4⟩
  ·rw[h1]at hg;exact O1.NW h2 hd (WO.o1 hg)
  rw[h1]at hg;exact hg.elim
def R1.reg{E:Env}{r:Option Nat}{A:aa}{H:Hp}{Q:ak->aa->Hp->Prop}{id:Nat}{ops:Array Oper}(h:WO E ops.toList (λA H=>Q .normal A H) ops.toList A H):R1 E r (.region id ops false) A H Q:=R1.region h.o1
def C1.body{E:Env}{H:Hp}{f:FuncId}{fn:Func}{c:Code}{nt:Nat}{res:List ResultVar}{args:List AV}{Q:AV->Hp->Prop}(hf:E.P.funcs[f]?=some fn)(hb:fn.body=some c)(A0:fn.ntmps=nt)(hres:fn.results.toList=res)(hn:Nat.ble args.length nt=true)(X7:Nat.ble nt 1048576=true)
  (h:∀tm,(∀i v,args[i]?=some v->slot tm i=v)->R1 E none c ⟨tm,nt,[]⟩ H λe A' H'=>∃v H2,aC E res (e,A',H')=.ok [(v,H2)]∧Q v H2):C1 E f args H Q:=by
 subst A0 hres;have h1:args.length≤fn.ntmps:=zA4 hn;have h2:fn.ntmps≤1048576:=zA4 X7;refine C1.Vt hf hb h1 h2 (h _ λi v hv=>?_);rw[NG _ _ (by omega),hv];rfl
def ET{E:Env}{t:Tmp}{A:aa}{H:Hp}{e:ak}{v:AV}{x:Bool×List AC}(he:e=.normal∨e=.ret)(hd:A.dfr=[])(hv:slot A.tm t=v)(hx:iZ v=some x):aC E [.tmp t] (e,A,H)=.ok [(dU [x],H)]:=by
 have key:(aw (closeAll H A.dfr) (R.bad "marks") λh2=>aw (bQ E.P [.tmp t] A.tm h2) (.bad "results") λl=>.ok [(dU l,h2)])=.ok [(dU [x],H)]:=by
  rw[hd];have hs:(A.tm.get t)=none∨∃u,A.tm.get t=some u∧u=v:=by
   unfold slot at hv;cases hg:A.tm.get t with
   |none=>exact .inl rfl
   |some u=>rw[hg]at hv;exact .inr ⟨u,rfl,hv⟩
  have hr:bQ E.P [.tmp t] A.tm H=some [x]:=by
   show aw (aw (A.tm.get t) none iZ) none (λx=>aw (some []) none λl=>some (x::l))=some [x];rcases hs with h|⟨u,h,rfl⟩
   ·exfalso;unfold slot at hv;rw[h]at hv;have Z3:aD=v:=hv;rw[<-Z3]at hx;cases hx
   rw[h];show aw (iZ u) none (λx=>some [x])=_;rw[hx];rfl
  show aw (bQ E.P [.tmp t] A.tm H) (R.bad "results") (λl=>R.ok [(dU l,H)])=_
  rw[hr];rfl
 rcases he with rfl|rfl
 ·exact key
 exact key
section
variable{H:Hp}{id g off lim n fo:Nat}
theorem pC(h1:1≤n)(h2:fo+n≤lim):fl H fo n (.one (.o (.ptr id g off lim)))=.val (.one (.o (.ptr id g (off+fo) (lim-fo)))) H:=by
 show aA (both (Nat.ble 1 n) (Nat.ble (Nat.add fo n) lim)) _ _=_;have e1:Nat.ble 1 n=true:=zA5 h1;have e2:Nat.ble (Nat.add fo n) lim=true:=zA5 h2;rw[e1,e2];rfl
theorem Db{len sz i:Nat}(h:i<len):cC H sz (.one (.o (.sl id g off len sz))) (.one (.i .i64 (.ofNat i)))=.val (.one (.o (.ptr id g (off+i*sz) sz))) H:=by
 show aA (both (Nat.beq sz sz) (Nat.blt i len)) _ _=_;have e1:Nat.beq sz sz=true:=Nat.beq_refl _;have e2:Nat.blt i len=true:=zA5 h;rw[e1,e2];rfl
theorem jb{len sz i:Nat}(h:i<len):cC H sz (.one (.o (.sl id g off len sz))) (.one (.i .i64 (i:Int)))=.val (.one (.o (.ptr id g (off+i*sz) sz))) H:=Db h
def rowOf(o:Option aJ)(g:Nat):Option (List AC):=
 match o with
 |some (.arr cells _ lo gen)=>if lo≤g∧g≤gen then some cells else none
 |some (.ro cells)=>if g=0 then some cells else none
 |_=>none
theorem cG{cells:List AC}{e:TypeId}{lo gen g:Nat}(h1:lo≤g)(h2:g≤gen):rowOf (some (.arr cells e lo gen)) g=some cells:=zB0 ⟨h1,h2⟩
theorem Ic{cells:List AC}:rowOf (some (.ro cells)) 0=some cells:=rfl
theorem od{x:xm}{g:Nat}:rowOf (some (.oth x)) g=none:=rfl
theorem Kv(o:Option aJ)(g off lim n:Nat):rdO o g off lim n=(rowOf o g).bind λcells=>if n≤lim∧off+n≤cells.length then some ((cells.drop off).take n)else none:=by
 cases o with
 |none=>rfl
 |some o=>
  cases o with
  |arr cells e lo gen=>
   show ifE (both (Nat.ble lo g) (both (Nat.ble g gen) (both (Nat.ble n lim) (Nat.ble (Nat.add off n) (bq cells))))) (some (cut cells off n)) none=(if lo≤g∧g≤gen then some cells else none).bind _;simp only[bL,cF,bj,jz,Bool.and_eq_true,Nat.ble_eq];by_cases h1:lo≤g∧g≤gen
   ·rw[zB0 h1];by_cases h2:n≤lim∧off+n≤cells.length
    ·rw[zB0 ⟨h1.1,h1.2,h2.1,h2.2⟩];simp only[Option.bind_some,zB0 h2]
    rw[zB1 λh=>h2 ⟨h.2.2.1,h.2.2.2⟩];simp only[Option.bind_some,zB1 h2]
   rw[zB1 h1,zB1 λh=>h1 ⟨h.1,h.2.1⟩];rfl
  |oth x=>rfl
  |ro cells=>
   show ifE (both (Nat.beq g 0) (both (Nat.ble n lim) (Nat.ble (Nat.add off n) (bq cells)))) (some (cut cells off n)) none=(if g=0 then some cells else none).bind _;simp only[bL,cF,bj,jz,Bool.and_eq_true,Nat.ble_eq,Nat.beq_eq];by_cases h1:g=0
   ·rw[zB0 h1];by_cases h2:n≤lim∧off+n≤cells.length
    ·rw[zB0 ⟨h1,h2.1,h2.2⟩];simp only[Option.bind_some,zB0 h2]
    rw[zB1 λh=>h2 ⟨h.2.1,h.2.2⟩];simp only[Option.bind_some,zB1 h2]
   rw[zB1 h1,zB1 λh=>h1 h.1];rfl
def Rd(H:Hp)(id g off n:Nat)(c:List AC):Prop:=∃cells,rowOf (H.get id) g=some cells∧off+n≤cells.length∧(cells.drop off).take n=c
theorem Rd.len{c:List AC}(h:Rd H id g off n c):c.length=n:=by
 obtain⟨cells,h1,h4,rfl⟩:=h
 simp
 omega
theorem Rd.part{c:List AC}(h:Rd H id g off n c)(i k:Nat)(hk:i+k≤n):Rd H id g (off+i) k ((c.drop i).take k):=by
 obtain⟨cells,h1,h4,rfl⟩:=h
 refine⟨cells,h1,by omega,?_⟩
 rw[List.drop_take,List.drop_drop,List.take_take];congr 1
 omega
theorem Rd.dG{c:List AC}{H':Hp}(h:Rd H id g off n c)(hg:H'.get id=H.get id):Rd H' id g off n c:=by
 obtain⟨cells,h1,r⟩:=h
 exact⟨cells,by rw[hg];exact h1,r⟩
theorem Er(o:aJ)(i:Nat):(H.new o).get i=if i=H.nx then some o else H.get i:=PT.dv _ _ _ _
theorem GV(o:aJ)(k i:Nat):(H.mod k o).get i=if i=k then some o else H.get i:=PT.dv _ _ _ _
end
section
variable{H:Hp}{kd:Nat}{alt:ab}{a b:List UInt8}{x y:Int}
theorem Su{f:BF}:bp H kd .lss f (.one (.o (.str a))) (.one (.o (.str b))) alt=.val (.one (.b (oA a b))) H:=rfl
theorem Tc{f:BF}:bp H kd .geq f (.one (.o (.str a))) (.one (.o (.str b))) alt=.val (.one (.b (!oA a b))) H:=rfl
theorem Qt{f:BF}:bp H kd .leq f (.one (.o (.str a))) (.one (.o (.str b))) alt=.val (.one (.b (oA a b||lEq a b))) H:=rfl
theorem TF{f:BF}:bp H kd .gtr f (.one (.o (.str a))) (.one (.o (.str b))) alt=.val (.one (.b (!(oA a b||lEq a b)))) H:=rfl
theorem TP{f:BF}:bp H kd .eql f (.one (.o (.str a))) (.one (.o (.str b))) alt=.val (.one (.b (lEq a b))) H:=rfl
theorem Sf{f:BF}:bp H kd .neq f (.one (.o (.str a))) (.one (.o (.str b))) alt=.val (.one (.b (!lEq a b))) H:=rfl
theorem SA{k:IntKind}:bp H kd .lss (dX .lss) (.one (.i k x)) (.one (.i k y)) alt=.val (.one (.b (decide (x<y)))) H:=by
 have e:bp H kd .lss (dX .lss) (.one (.i k x)) (.one (.i k y)) alt=.val (.one (.b (!iLe y x))) H:=by cases k<;>rfl
 rw[e,vq];congr 3;rw[Bool.eq_iff_iff];simp
theorem QV{k:IntKind}:bp H kd .leq (dX .leq) (.one (.i k x)) (.one (.i k y)) alt=.val (.one (.b (decide (x≤y)))) H:=by
 have e:bp H kd .leq (dX .leq) (.one (.i k x)) (.one (.i k y)) alt=.val (.one (.b (iLe x y))) H:=by cases k<;>rfl
 rw[e,vq]
theorem Qg{k:IntKind}:bp H kd .gtr (dX .gtr) (.one (.i k x)) (.one (.i k y)) alt=.val (.one (.b (decide (y<x)))) H:=by
 have e:bp H kd .gtr (dX .gtr) (.one (.i k x)) (.one (.i k y)) alt=.val (.one (.b (!iLe x y))) H:=by cases k<;>rfl
 rw[e,vq];congr 3;rw[Bool.eq_iff_iff];simp
theorem Ue{k:IntKind}:bp H kd .geq (dX .geq) (.one (.i k x)) (.one (.i k y)) alt=.val (.one (.b (decide (y≤x)))) H:=by
 have e:bp H kd .geq (dX .geq) (.one (.i k x)) (.one (.i k y)) alt=.val (.one (.b (iLe y x))) H:=by cases k<;>rfl
 rw[e,vq]
theorem TC{k:IntKind}:bp H kd .eql (dX .eql) (.one (.i k x)) (.one (.i k y)) alt=.val (.one (.b (x==y))) H:=by
 have e:bp H kd .eql (dX .eql) (.one (.i k x)) (.one (.i k y)) alt=.val (.one (.b (iEq x y))) H:=by cases k<;>rfl
 rw[e,kU]
theorem Qm{k:IntKind}:bp H kd .neq (dX .neq) (.one (.i k x)) (.one (.i k y)) alt=.val (.one (.b (!(x==y)))) H:=by
 have e:bp H kd .neq (dX .neq) (.one (.i k x)) (.one (.i k y)) alt=.val (.one (.b (!iEq x y))) H:=by cases k<;>rfl
 rw[e,kU]
theorem TG{k:IntKind}:bp H kd .add (dX .add) (.one (.i k x)) (.one (.i k y)) alt=.val (.one (.i k (k.wrap (x+y)))) H:=by
 have e:bp H kd .add (dX .add) (.one (.i k x)) (.one (.i k y)) alt=.val (.one (.i k (qo k (Int.add x y)))) H:=by cases k<;>rfl
 rw[e,pQ];rfl
theorem Ul{k:IntKind}:bp H kd .sub (dX .sub) (.one (.i k x)) (.one (.i k y)) alt=.val (.one (.i k (k.wrap (x-y)))) H:=by
 have e:bp H kd .sub (dX .sub) (.one (.i k x)) (.one (.i k y)) alt=.val (.one (.i k (qo k (Int.sub x y)))) H:=by cases k<;>rfl
 rw[e,pQ];rfl
theorem UK{k:IntKind}:bp H kd .mul (dX .mul) (.one (.i k x)) (.one (.i k y)) alt=.val (.one (.i k (k.wrap (x*y)))) H:=by
 have e:bp H kd .mul (dX .mul) (.one (.i k x)) (.one (.i k y)) alt=.val (.one (.i k (qo k (Int.mul x y)))) H:=by cases k<;>rfl
 rw[e,pQ];rfl
end
def aj{E:Env}{t:Tmp}{A:aa}{H:Hp}{e:ak}(c:AC)(he:e=.normal∨e=.ret)(hd:A.dfr=[])(hv:slot A.tm t=.one c):aC E [.tmp t] (e,A,H)=.ok [(.one c,H)]:=ET he hd hv rfl
def dC:∀us:List Did,eC us []=true
 |[]=>rfl
 |u::us=>by
  show both (sJ u.M1 []) (eC us [])=true;rw[dC us];rfl
section
variable{E:Env}{A:aa}{H:Hp}{Q:aa->Hp->Prop}{g:Option (Option Tmp×Bool)}{d:Option Tmp}{f:SF}{o:Oper}{l:List OF}{j m:Nat}{ms:List Nat}{did:List Did}
theorem D1.nil{j:Nat}{ms:List Nat}(h:Q A H):D1 E [] j ms did A H Q:=⟨0,A,H,rfl,h⟩
theorem D1.cons(hg:∀y n:R (aa×Hp),bB A.tm g y n=y)(hd:aK d A.nt=true){sub:PT aJ}(U0:aO H.t H.nx A.tm o (aL m did)=sub)
  (h:N1 E ⟨sub,H.nx,[]⟩ (f.run A.tm ⟨sub,H.nx,[]⟩) λv H'=>eC (aL m did) (db sub H.nx H'.log)=true ∧
   D1 E l (j+1) ms (note (bm o) j sub H H' did (db sub H.nx H'.log)) (bI A d v) ⟨cM (bm o) H H' (aL m did) (db sub H.nx H'.log),H'.nx,db sub H.nx H'.log++H.log⟩ Q):
  D1 E (⟨g,d,f,o⟩::l) j (m::ms) did A H Q:=by
 subst U0;obtain⟨n,v,H1,h1,hf,k,A2,H2,h2,h3⟩:=h
 refine⟨max n k,A2,H2,?_,h3⟩
 have a1:=si (E:=E) (dh E (Nat.le_max_left n k)) _ h1;have a2:=ny (E:=E) (dh E (Nat.le_max_right n k)) l (j+1) ms _ (bI A d v) _ _ h2;show bB A.tm g (vM (bm o) j A d H (aO H.t H.nx A.tm o (aL m did)) (aL m did) did (cJ E (eval E (max n k)) l (Nat.add j 1) ms) (je E (eval E (max n k)) ⟨aO H.t H.nx A.tm o (aL m did),H.nx,[]⟩ (f.run A.tm ⟨aO H.t H.nx A.tm o (aL m did),H.nx,[]⟩)))
  (fA A d aD H (cJ E (eval E (max n k)) l (Nat.add j 1) ms did))=_
 rw[hg,a1];show Eng.ifE (eC (aL m did) (db (aO H.t H.nx A.tm o (aL m did)) H.nx H1.log)) (fA A d v _ (cJ E (eval E (max n k)) l (Nat.add j 1) ms _)) _=_;rw[hf];show fA A d v _ (cJ E (eval E (max n k)) l (Nat.add j 1) ms _)=_;rw[iB hd];exact a2
theorem D1.skip(hg:∀y n:R (aa×Hp),bB A.tm g y n=n)(hd:aK d A.nt=true)(h:D1 E l (j+1) ms did (bI A d aD) H Q):D1 E (⟨g,d,f,o⟩::l) j (m::ms) did A H Q:=by
 obtain⟨k,A2,H2,h2,h3⟩:=h
 refine⟨k,A2,H2,?_,h3⟩
 show bB A.tm g _ (fA A d aD H (cJ E (eval E k) l (Nat.add j 1) ms did))=_;rw[hg,iB hd];exact h2
theorem D1.pure(hg:∀y n:R (aa×Hp),bB A.tm g y n=y)(hd:aK d A.nt=true)(hk:bm o=0){v:AV}(hv:f.run A.tm ⟨.leaf,H.nx,[]⟩=.val v ⟨.leaf,H.nx,[]⟩)
  (h:D1 E l (j+1) ms did (bI A d v) H Q):D1 E (⟨g,d,f,o⟩::l) j (m::ms) did A H Q:=by
 have hs:aO H.t H.nx A.tm o (aL m did)=.leaf:=by unfold aO;rw[hk];rfl
 refine D1.cons hg hd hs ?_;rw[hv];refine N1.val ⟨dC _,?_⟩;rw[hk];have e1:note 0 j .leaf H ⟨.leaf,H.nx,[]⟩ did (db .leaf H.nx [])=did:=by
  show Eng.ifE (both true (Nat.beq H.nx H.nx)) did _=did;rw[Nat.beq_refl];rfl
 have e2:cM 0 H ⟨.leaf,H.nx,[]⟩ (aL m did) (db .leaf H.nx [])=H.t:=by
  show bP H.t .leaf (cd H.nx (H.nx-H.nx))=H.t;rw[Nat.sub_self];rfl
 rw[e1,e2];exact h
def made(j nx:Nat):Did:=⟨j,.leaf,nx,nx+1,[]⟩
theorem D1.make(hg:∀y n:R (aa×Hp),bB A.tm g y n=y)(hd:aK d A.nt=true)(hk:bm o=0){v:AV}{x:aJ}(hv:f.run A.tm ⟨.leaf,H.nx,[]⟩=.val v (Hp.new ⟨.leaf,H.nx,[]⟩ x))
  (h:D1 E l (j+1) ms (made j H.nx::did) (bI A d v) (H.new x) Q):D1 E (⟨g,d,f,o⟩::l) j (m::ms) did A H Q:=by
 have hs:aO H.t H.nx A.tm o (aL m did)=.leaf:=by unfold aO;rw[hk];rfl
 refine D1.cons hg hd hs ?_;rw[hv];refine N1.val ⟨dC _,?_⟩;rw[hk];have Z0:Nat.beq H.nx (H.nx+1)=false:=by
  cases hb:Nat.beq H.nx (H.nx+1)with
  |false=>rfl
  |true=>have:=zA3 hb;omega
 have e1:note 0 j .leaf H (Hp.new ⟨.leaf,H.nx,[]⟩ x) did (db .leaf H.nx [])=made j H.nx::did:=by
  show Eng.ifE (both true (Nat.beq H.nx (H.nx+1))) did _=_;rw[Z0];rfl
 have e2:cM 0 H (Hp.new ⟨.leaf,H.nx,[]⟩ x) (aL m did) (db .leaf H.nx [])=H.t.set H.nx x:=by
  show bP H.t ((PT.leaf:PT aJ).set H.nx x) (cd H.nx (H.nx+1-H.nx))=_;have:H.nx+1-H.nx=1:=by omega
  rw[this];show PT.put (((PT.leaf:PT aJ).set H.nx x).get H.nx) H.t H.nx=_;rw[PT.dv,zB0 rfl];rfl
 have e3:db .leaf H.nx (Hp.new ⟨.leaf,H.nx,[]⟩ x).log=[]:=rfl;rw[e3];have e4:note 0 j .leaf H (Hp.new ⟨.leaf,H.nx,[]⟩ x) did []=made j H.nx::did:=e1;have e5:cM 0 H (Hp.new ⟨.leaf,H.nx,[]⟩ x) (aL m did) []=H.t.set H.nx x:=e2;rw[e4,e5];exact h
def looked(j nx:Nat)(sub:PT aJ):Did:=⟨j,sub,nx,nx,[]⟩
theorem D1.look(hg:∀y n:R (aa×Hp),bB A.tm g y n=y)(hd:aK d A.nt=true)(hk:bm o=1){v:AV}
  (hv:f.run A.tm ⟨aO H.t H.nx A.tm o (aL m did),H.nx,[]⟩=.val v ⟨aO H.t H.nx A.tm o (aL m did),H.nx,[]⟩)
  (h:∀sub,aO H.t H.nx A.tm o (aL m did)=sub->D1 E l (j+1) ms (looked j H.nx sub::did) (bI A d v) H Q):D1 E (⟨g,d,f,o⟩::l) j (m::ms) did A H Q:=by
 refine D1.cons hg hd rfl ?_;rw[hv];refine N1.val ⟨dC _,?_⟩;rw[hk];have e2:cM 1 H ⟨aO H.t H.nx A.tm o (aL m did),H.nx,[]⟩ (aL m did) (db (aO H.t H.nx A.tm o (aL m did)) H.nx [])=H.t:=by
  show bP H.t _ ([]++cd H.nx (H.nx-H.nx))=H.t;rw[Nat.sub_self];rfl
 rw[e2];exact h _ rfl
end
def tE{t:PT aJ}{i:Nat}:∀{l:List Nat},i∈l->i∈kY t l
 |[],h=>by cases h
 |x::l,h=>by
  unfold kY;rcases List.mem_cons.1 h with rfl|h
  ·split<;>exact List.mem_cons_self ..
  have ih:=tE (t:=t) h;split
  ·exact List.mem_cons_of_mem _ (List.mem_cons_of_mem _ ih)
  exact List.mem_cons_of_mem _ ih
def mV{src:PT aJ}{id:Nat}:∀{l:List Nat}{t:PT aJ},(bP t src l).get id=if id∈l then src.get id else t.get id
 |[],t=>by simp[bP]
 |i::l,t=>by
  unfold bP;rw[mV];by_cases hl:id∈l
  ·rw[zB0 hl,zB0 (List.mem_cons_of_mem _ hl)]
  rw[zB1 hl,PT.qL];by_cases hi:id=i
  ·subst hi;rw[zB0 rfl,zB0 (List.mem_cons_self ..)]
  rw[zB1 hi,zB1 λhh=>(List.mem_cons.1 hh).elim hi hl]
def dE(P:AV->Hp->Prop)(n:ab):Prop:=
 match n with
 |.val v H=>P v H
 |_=>False
def HK{P:AV->Hp->Prop}{v:AV}{H:Hp}:dE P (.val v H)=P v H:=rfl
def PI{P:Program}{d:Option Tmp}{t:TypeId}{x:Operand}{ty:TypeId}{pos:String}{af:Array Edge}{g:Option (Nat×Bool)}{tm:PT AV}{H H':Hp}{id gn off lim:Nat}{v:AV}
  (hx:ev tm x=.one (.o (.ptr id gn off lim))) (h:(aI P ⟨d,.load t x,ty,pos,af,g⟩).run tm H=.val v H'):
  H'=H∧(∀o,H.get id≠some (.oth o))∧∀h:Hp,h.get id=H.get id->(aI P ⟨d,.load t x,ty,pos,af,g⟩).run tm h=.val v h:=by
 cases ht:loadT P t with
 |none=>
  have e:∀h,(aI P ⟨d,.load t x,ty,pos,af,g⟩).run tm h=.bad "load" ∨ ∃w,(aI P ⟨d,.load t x,ty,pos,af,g⟩).run tm h=.bad w:=λh=>.inr (by
   show∃w,(ndF (loadT P t) _ _).run tm h=_
   rw[ht];exact⟨_,rfl⟩)
  rcases e H with e|⟨w,e⟩<;>(rw[e]at h;cases h)
 |some p=>
  have e:∀h:Hp,(aI P ⟨d,.load t x,ty,pos,af,g⟩).run tm h=nd (eN h id gn off lim p.2) "load - cells" λc=>ifE p.1 (.val (.agg c) h) (List.rec (motive:=λ_=>ab) (.bad "load - no cell") (λx _ _=>.val (.one x) h) c):=λh=>by
   rw[Ns t x ht,hx];rfl
  rw[e H]at h;cases hr:eN H id gn off lim p.2 with
  |none=>rw[hr]at h;cases h
  |some c=>
   rw[hr]at h;have h':ifE p.1 (ab.val (.agg c) H) (List.rec (motive:=λ_=>ab) (.bad "load - no cell") (λx _ _=>.val (.one x) H) c)=.val v H':=h
   have key:H'=H∧∀k:Hp,ifE p.1 (ab.val (.agg c) k) (List.rec (motive:=λ_=>ab) (.bad "load - no cell") (λx _ _=>.val (.one x) k) c)=.val v k:=by
    cases hb:p.1 with
    |true=>
     rw[hb]at h';injection h' with h1 h2
     exact⟨h2.symm,λk=>by rw[<-h1];rfl⟩
    |false=>
     rw[hb]at h';cases c with
     |nil=>cases h'
     |cons y c=>
      injection h' with h1 h2
      exact⟨h2.symm,λk=>by rw[<-h1];rfl⟩
   refine⟨key.1,?_,λk hk=>?_⟩
   ·intro o ho;have h3:rdO (H.get id) gn off lim p.2=some c:=hr;rw[ho]at h3;cases h3
   rw[e k];have:eN k id gn off lim p.2=some c:=by
    rw[<-hr];unfold eN;rw[hk]
   rw[this];exact key.2 k
def OT{P:Program}{d:Option Tmp}{t:TypeId}{a x:Operand}{ty:TypeId}{pos:String}{af:Array Edge}{g:Option (Nat×Bool)}{tm:PT AV}{H H':Hp}{id gn off lim:Nat}{v:AV}
  (hx:ev tm a=.one (.o (.ptr id gn off lim))) (h:(aI P ⟨d,.store t a x,ty,pos,af,g⟩).run tm H=.val v H'):
  ∃o,H'=H.mod id o∧(∃k,H.get id=some k)∧∀h:Hp,h.get id=H.get id->(aI P ⟨d,.store t a x,ty,pos,af,g⟩).run tm h=.val v (h.mod id o):=by
 cases ht:aT P t with
 |none=>
  have e:∃w,(aI P ⟨d,.store t a x,ty,pos,af,g⟩).run tm H=.bad w:=by
   show∃w,(ndF (aT P t) _ _).run tm H=_
   rw[ht];exact⟨_,rfl⟩
  obtain⟨w,e⟩:=e
  rw[e]at h;cases h
 |some n=>
  have e:∀h:Hp,(aI P ⟨d,.store t a x,ty,pos,af,g⟩).run tm h=nh (h.get id) (.bad "store - no row") λcells e lo gen=>
   aA (both (Nat.beq gn gen) (both (Nat.beq (bq (ev tm x).cells) n) (both (Nat.ble n lim) (both (Nat.ble (Nat.add off n) (bq cells)) (both (Nat.ble lo gen) (ev tm x).bz))))) "store - stale or of another size"
    (.val aD (h.mod id (.arr (eQ cells off (ev tm x).cells) e gen gen))):=λh=>by rw[FR t a x ht,hx];rfl
  rw[e H]at h;cases hg:H.get id with
  |none=>rw[hg]at h;cases h
  |some o=>
   cases o with
   |oth o=>rw[hg]at h;cases h
   |ro o=>rw[hg]at h;cases h
   |arr cells el lo gen=>
    rw[hg]at h;have h':aA (both (Nat.beq gn gen) (both (Nat.beq (bq (ev tm x).cells) n) (both (Nat.ble n lim) (both (Nat.ble (Nat.add off n) (bq cells)) (both (Nat.ble lo gen) (ev tm x).bz))))) "store - stale or of another size"
     (.val aD (H.mod id (.arr (eQ cells off (ev tm x).cells) el gen gen)))=.val v H':=h
    cases hb:both (Nat.beq gn gen) (both (Nat.beq (bq (ev tm x).cells) n) (both (Nat.ble n lim) (both (Nat.ble (Nat.add off n) (bq cells)) (both (Nat.ble lo gen) (ev tm x).bz))))with
    |false=>rw[hb]at h';cases h'
    |true=>
     rw[hb]at h';injection h' with h1 h2
     refine⟨_,h2.symm,⟨_,rfl⟩,λk hk=>?_⟩
     rw[e k,hk];show aA _ _ (ab.val aD (k.mod id (.arr (eQ cells off (ev tm x).cells) el gen gen)))=_;rw[hb,<-h1];rfl
def Gb{H:Hp}{tm:PT AV}{o:Oper}{us:List Did}{id:Nat}{x:Operand}(hk:bm o=1)(hx:x∈o.op.operands.toList)(hid:id∈(ev tm x).ids)(C0:id<H.nx)(hu:∀u∈us,bO u id=false):
  (aO H.t H.nx tm o us).get id=H.get id:=by
 have e:aO H.t H.nx tm o us=bP .leaf H.t ((kY H.t (o.op.operands.toList.flatMap λx=>(ev tm x).ids)).filter λi=>Nat.blt i H.nx&&!us.any (bO · i)):=by
  unfold aO;rw[hk];rfl
 rw[e,mV,zB0]
 ·rfl
 rw[List.mem_filter];refine⟨tE (List.mem_flatMap.2 ⟨x,hx,hid⟩),?_⟩
 have h1:Nat.blt id H.nx=true:=zA5 C0;have h2:us.any (bO · id)=false:=by
  rw[List.any_eq_false];intro u hm;rw[hu u hm];simp
 rw[h1,h2];rfl
section
variable{ty:TypeId}{pos:String}{af:Array Edge}{gd:Option (Nat×Bool)}
theorem sM{u:Did}{i:Nat}:i∈eb u↔bO u i=true:=by
 unfold eb bO;have hr:∀(n a:Nat),i∈cd a n↔a≤i∧i<a+n:=by
  intro n;induction n with
  |zero=>intro a;show i∈[]↔_;simp
  |succ n ih=>
   intro a;show i∈a::cd (a+1) n↔_;rw[List.mem_cons,ih];omega
 have e:Nat.sub u.c1 u.c0=u.c1-u.c0:=rfl;rw[List.mem_append,e,hr,Bool.or_eq_true,qF,Bool.and_eq_true,Nat.ble_eq];have e2:Nat.blt i u.c1=true↔i<u.c1:=⟨λh=>zA4 h,λh=>zA5 h⟩;rw[e2];constructor
 ·rintro(h|h)
  ·exact .inl h
  exact .inr ⟨h.1,by omega⟩
 rintro(h|h)
 ·exact .inl h
 exact .inr ⟨h.1,by omega⟩
end
def N1.mono{E:Env}{H:Hp}{n:ab}{Q Q':AV->Hp->Prop}(h:N1 E H n Q)(hq:∀v H',Q v H'->Q' v H'):N1 E H n Q':=
 let ⟨k,v,H',h1,h2⟩:=h;⟨k,v,H',h1,hq _ _ h2⟩
def ldO(b:Bool)(n off lim:Nat)(H:Hp)(o:Option (List AC)):ab:=
 nd (o.bind λcells=>if n≤lim∧off+n≤cells.length then some ((cells.drop off).take n)else none) "load - cells" λc=>ifE b (.val (.agg c) H) (List.rec (motive:=λ_=>ab) (.bad "load - no cell") (λx _ _=>.val (.one x) H) c)
def stO(n id g off lim:Nat)(x:AV)(H:Hp)(o:Option aJ):ab:=
 nh o (.bad "store - no row") λcells e lo gen=>
  aA (both (Nat.beq g gen) (both (Nat.beq (bq x.cells) n) (both (Nat.ble n lim) (both (Nat.ble (Nat.add off n) (bq cells)) (both (Nat.ble lo gen) x.bz))))) "store - stale or of another size"
   (.val aD (H.mod id (.arr (eQ cells off x.cells) e gen gen)))
section
variable{H:Hp}{b:Bool}{n id g off lim lo gen:Nat}{cells:List AC}{e:TypeId}{x:AV}
theorem gy:cH H b n (.one (.o (.ptr id g off lim)))=ldO b n off lim H (rowOf (H.get id) g):=by
 show nd (rdO (H.get id) g off lim n) _ _=_;rw[Kv];rfl
theorem th:im H n x (.one (.o (.ptr id g off lim)))=stO n id g off lim x H (H.get id):=rfl
theorem tZ(h3:n≤lim)(h4:off+n≤cells.length):ldO true n off lim H (some cells)=.val (.agg ((cells.drop off).take n)) H:=by
 unfold ldO;simp only[Option.bind_some,zB0 (zB3 h3 h4)];rfl
theorem uu(h3:1≤lim)(h4:off+1≤cells.length):ldO false 1 off lim H (some cells)=.val (.one ((cells.drop off).headD (.b false))) H:=by
 unfold ldO;simp only[Option.bind_some,zB0 (zB3 h3 h4)];cases hc:cells.drop off with
 |nil=>have:=congrArg List.length hc;simp at this;omega
 |cons y c=>rfl
theorem Ms(h1:g=gen)(h2:x.cells.length=n)(h3:n≤lim)(h4:off+n≤cells.length)(h5:lo≤gen)(h6:x.bz=true):
  stO n id g off lim x H (some (.arr cells e lo gen))=.val aD (H.mod id (.arr (cells.take off++(x.cells++cells.drop (off+n))) e gen gen)):=by
 subst h1 h2;show aA (both (Nat.beq g g) (both (Nat.beq (bq x.cells) x.cells.length) (both (Nat.ble x.cells.length lim) (both (Nat.ble (Nat.add off x.cells.length) (bq cells)) (both (Nat.ble lo g) x.bz))))) _ _=_;have e4:Nat.ble (Nat.add off x.cells.length) (bq cells)=true:=by rw[bj];exact zA5 h4
 rw[Nat.beq_refl,bj,Nat.beq_refl,zA5 h3,e4,zA5 h5,h6,fm];rfl
def SlC(H:Hp)(v:AC)(sz n:Nat)(cells:List AC):Prop:=cells.length=n*sz∧((v=.o .nilS∧n=0)∨∃id g off,v=.o (.sl id g off n sz)∧id<H.nx∧Rd H id g off (n*sz) cells)
theorem SlC.dG{v:AC}{sz n:Nat}{c:List AC}{H':Hp}(h:SlC H v sz n c)(hn:H.nx≤H'.nx)(hg:∀i,i<H.nx->H'.get i=H.get i):SlC H' v sz n c:=by
 refine⟨h.1,h.2.imp id ?_⟩
 rintro⟨id,g,off,h1,h2,h3⟩
 exact⟨id,g,off,h1,zA0 h2 hn,h3.dG (hg _ h2)⟩
theorem SlC.gr{v:AC}{sz n:Nat}{c:List AC}{H':Hp}(h:SlC H v sz n c)(hg:Gr H H'):SlC H' v sz n c:=h.dG hg.nx λi hi=>hg.get i hi λh=>h
theorem SlC.len{v:AC}{sz n:Nat}{c:List AC}(h:SlC H v sz n c):cW H 1 (.one v)=.val (.one (.i .i64 (n:Int))) H:=by
 rcases h.2 with⟨rfl,rfl⟩|⟨id,g,off,rfl,_⟩<;>rfl
theorem SlC.pos{v:AC}{sz n:Nat}{c:List AC}(h:SlC H v sz n c)(hn:0<n):∃id g off,v=.o (.sl id g off n sz)∧id<H.nx∧Rd H id g off (n*sz) c:=by
 rcases h.2 with⟨_,rfl⟩|h
 ·omega
 exact h
theorem wR{α:Type}{c:α->List AC}{sz:Nat}(hc:∀x,(c x).length=sz):∀l:List α,(l.flatMap c).length=l.length*sz
 |[]=>by simp
 |x::l=>by rw[List.flatMap_cons,List.length_append,hc,wR hc l,List.length_cons];rw[Nat.succ_mul];omega
theorem Cb{α:Type}{c:α->List AC}{sz:Nat}(hc:∀x,(c x).length=sz):∀(l:List α)(i:Nat)(x:α),l[i]?=some x->((l.flatMap c).drop (i*sz)).take sz=c x
 |[],i,x,h=>by simp at h
 |y::l,0,x,h=>by
  simp only[List.getElem?_cons_zero,Option.some.injEq]at h;subst h;rw[Nat.zero_mul,List.drop_zero,List.flatMap_cons,List.take_append_of_le_length (by rw[hc];exact zA1 _),List.take_of_length_le (by rw[hc];exact zA1 _)]
 |y::l,i+1,x,h=>by
  rw[List.getElem?_cons_succ]at h;rw[List.flatMap_cons,Nat.succ_mul,List.drop_append,hc,List.drop_of_length_le (by rw[hc];omega),List.nil_append];have:i*sz+sz-sz=i*sz:=by omega
  rw[this];exact Cb hc l i x h
theorem Rd.at{α:Type}{c:α->List AC}{sz:Nat}(hc:∀x,(c x).length=sz){l:List α}(h:Rd H id g off (l.length*sz) (l.flatMap c)){i:Nat}{x:α}(hi:l[i]?=some x):Rd H id g (off+i*sz) sz (c x):=by
 have C0:i<l.length:=by
  rcases Nat.lt_or_ge i l.length with h|h
  ·exact h
  rw[List.getElem?_eq_none h]at hi;cases hi
 have:=h.part (i*sz) sz (by
  have:(i+1)*sz≤l.length*sz:=Nat.mul_le_mul_right _ C0;rw[Nat.succ_mul]at this;exact this)
 rwa [Cb hc l i x hi]at this
end
def gwv(v:AV)(w:Bool):GW:=match v with|.one (.b b)=>if b=w then .yes else .no|.tup _=>.no|_=>.lost
def XC(w:Bool):gwv aD w=.no:=rfl
def Xc(b w:Bool):gwv (.one (.b b)) w=if b=w then .yes else .no:=rfl
def RO(t:Tmp)(w:Bool)(tm:PT AV):gw (some (some t,w)) tm=gwv (slot tm t) w:=rfl
def Fc(ops:List Oper)(j:Nat)(w:Bool):gOf ops (some (j,w))=(ops[j]?).elim (some (none,w)) λo=>some (o.dst,w):=by
 show(match ops[j]? with|none=>some (none,w)|some o=>some (o.dst,w))=_
 cases ops[j]?<;>rfl
def yP{α β:Type}(g:α->R β):∀(l l':List α)(o o':List β),cr g l=.ok o->cr g l'=.ok o'->cr g (l++l')=.ok (o++o')
 |[],_,_,_,h,_=>by cases h
 |[a],l',o,o',h,h'=>by
  cases l' with
  |nil=>cases h'
  |cons b l'=>
   have e:g a=.ok o:=h;show xf (g a) (cr g (b::l'))=_;rw[e,h'];rfl
 |a::b::l,l',o,o',h,h'=>by
  have h1:xf (g a) (cr g (b::l))=.ok o:=h;cases ha:g a with
  |bad s=>rw[ha]at h1;cases h1
  |ok oa=>
   cases hb:cr g (b::l)with
   |bad s=>rw[ha,hb]at h1;cases h1
   |ok ob=>
    rw[ha,hb]at h1;have e:oa++ob=o:=by injection h1
    subst e;show xf (g a) (cr g (b::l++l'))=_;rw[ha,yP g (b::l) l' ob o' hb h'];show R.ok (oa++(ob++o'))=_;rw[List.append_assoc]
def xV{α β γ:Type}{f:α->R β}{g:β->R γ}:∀(l:List α)(o:List γ),cr (λa=>(f a).bind g) l=.ok o->(cr f l).bind g=.ok o
 |[],_,h=>by cases h
 |[a],_,h=>h
 |a::b::l,o,h=>by
  have h1:xf ((f a).bind g) (cr (λa=>(f a).bind g) (b::l))=.ok o:=h;cases ha:(f a).bind g with
  |bad s=>rw[ha]at h1;cases h1
  |ok oa=>
   cases hb:cr (λa=>(f a).bind g) (b::l)with
   |bad s=>rw[ha,hb]at h1;cases h1
   |ok ob=>
    rw[ha,hb]at h1;have e:oa++ob=o:=by injection h1
    subst e;have ih:=xV (b::l) ob hb;show(xf (f a) (cr f (b::l))).bind g=_
    cases hf:f a with
    |bad s=>rw[hf]at ha;cases ha
    |ok la=>
     rw[hf]at ha;cases hl:cr f (b::l)with
     |bad s=>rw[hl]at ih;cases ih
     |ok lb=>
      rw[hl]at ih;exact yP g la lb oa ob ha ih
def SR{α β γ:Type}{x:R α}{f:α->R β}{g:β->R γ}{o:List γ}(h:x.bind (λa=>(f a).bind g)=.ok o):(x.bind f).bind g=.ok o:=by
 cases x with
 |bad s=>cases h
 |ok l=>exact xV l o h
section
variable{E:Env}{r:Option Nat}{A:aa}{H:Hp}{Q:ak->aa->Hp->Prop}{x y z:Code}
theorem R1.aF(h:R1 E r (.seq x (.seq y z)) A H Q):R1 E r (.seq (.seq x y) z) A H Q:=by
 obtain⟨n,e,A1,H1,h1,h2⟩:=h
 refine⟨n,e,A1,H1,?_,h2⟩
 show(((codeF E x).run (eval E n) r A H).bind (rZ (codeF E y) (eval E n) r)).bind (rZ (codeF E z) (eval E n) r)=_
 have he:(λa=>(rZ (codeF E y) (eval E n) r a).bind (rZ (codeF E z) (eval E n) r))=rZ (codeF E (.seq y z)) (eval E n) r:=by
  funext a
  obtain⟨e,A2,H2⟩:=a
  cases e<;>rfl
 refine SR ?_;rw[he];exact h1
theorem R1.UN{c:Operand}{b:Bool}(hc:ev A.tm c=.one (.b b))(h1:b=true->R1 E r (.seq x z) A H Q)(h2:b=false->R1 E r (.seq y z) A H Q):R1 E r (.seq (.cond c x y) z) A H Q:=by
 cases b with
 |true=>
  obtain⟨n,e,A1,H1,h3,h4⟩:=h1 rfl
  refine⟨n,e,A1,H1,?_,h4⟩
  show(dO (ev A.tm c) (.bad "cond") (λb=>Eng.ifE b ((codeF E x).run (eval E n) r A H) ((codeF E y).run (eval E n) r A H))).bind _=_
  rw[hc];exact h3
 |false=>
  obtain⟨n,e,A1,H1,h3,h4⟩:=h2 rfl
  refine⟨n,e,A1,H1,?_,h4⟩
  show(dO (ev A.tm c) (.bad "cond") (λb=>Eng.ifE b ((codeF E x).run (eval E n) r A H) ((codeF E y).run (eval E n) r A H))).bind _=_
  rw[hc];exact h3
theorem R1.bA(h:R1 E r z A H Q):R1 E r (.seq .skip z) A H Q:=R1.seq (R1.skip h)
theorem R1.xg(h:Q .ret A H):R1 E r (.seq .ret z) A H Q:=R1.seq (R1.ret h)
theorem R1.oR{id:Nat}(h:Q (.exit id) A H):R1 E r (.seq (.exit id) z) A H Q:=R1.seq (R1.exit h)
theorem R1.kZ(h:R1 E r (.seq x z) A H Q):R1 E r (.seq (.scope x) z) A H Q:=h
theorem R1.ba{id:Nat}(h:∀K:ak->aa->Hp->Prop,(∀A H,R1 E r z A H Q->K .normal A H)->(∀A H,R1 E r z A H Q->K (.exit id) A H)->(∀i A H,i≠id->Q (.exit i) A H->K (.exit i) A H)->(∀A H,Q .ret A H->K .ret A H)->R1 E r x A H K):R1 E r (.seq (.block id x) z) A H Q:=by
 refine R1.seq (R1.block (h _ (λA H h=>h) (λA H h=>?_) (λi A H hi h=>?_) λA H h=>h))
 ·show if id=id then _ else _;rw[zB0 rfl];exact h
 show if i=id then _ else _;rw[zB1 hi];exact h
end
def opK(o:Oper):Nat:=
 match o.op with
 |.move _=>0
 |.assign _=>0
 |.pick ..=>0
 |.build ..=>0
 |.nilCheck _=>0
 |.binOp ..=>0
 |.unOp ..=>0
 |.convert ..=>0
 |.fieldAddr ..=>0
 |.field ..=>0
 |.indexAddr ..=>0
 |.index ..=>0
 |.slice ..=>0
 |.extract ..=>0
 |.makeFunc ..=>0
 |.alloc _=>1
 |.box ..=>1
 |.buildSlice ..=>1
 |.makeSlice ..=>1
 |.makeMap ..=>1
 |.load ..=>2
 |.lookup ..=>2
 |.mapUpdate ..=>3
 |.store ..=>3
 |.call ⟨.value _,_,_⟩=>3
 |.call ⟨.builtin .len,⟨[_]⟩,⟨[_]⟩⟩=>2
 |.call ⟨.builtin .min,_,_⟩=>2
 |.call ⟨.builtin .max,_,_⟩=>2
 |.call ⟨.builtin .append,⟨[_,_]⟩,⟨[_,_]⟩⟩=>3
 |_=>4
def JR:Nat->Nat->Bool
 |0,_=>true
 |1,_=>true
 |2,k=>Nat.beq k 0||Nat.beq k 2
 |3,k=>Nat.beq k 0
 |6,k=>Nat.beq k 0||Nat.beq k 2
 |_,_=>false
def bN(k m:Nat):Nat->List Nat->Bool
 |_,[]=>true
 |i,ki::ks=>(Nat.testBit m i||JR k ki)&&bN k m (Nat.add i 1) ks
def plK(st:Bool)(o:Oper):Nat:=bif st&&cI o then 6 else opK o
def BM(st:Bool):List Nat->List Oper->List Nat->Bool
 |_,[],_=>true
 |before,o::os,m::ms=>(Nat.blt (opK o) 4&&bN (plK st o) m 0 before)&&BM st (before++[opK o]) os ms
 |_,_::_,[]=>false
def mC(st:Bool)(ops:Array Oper):Bool:=dP ops&&BM st [] ops.toList (dM [] 0 ops.toList)
def sP{k m:Nat}:∀{i:Nat}{ks:List Nat},bN k m i ks=true->∀j kj,ks[j]?=some kj->Nat.testBit m (i+j)=true∨JR k kj=true
 |_,[],_,j,kj,h=>by simp at h
 |i,x::ks,h,0,kj,hj=>by
  unfold bN at h;rw[Bool.and_eq_true,Bool.or_eq_true]at h;simp only[List.getElem?_cons_zero,Option.some.injEq]at hj;subst hj;exact h.1
 |i,x::ks,h,j+1,kj,hj=>by
  unfold bN at h;rw[Bool.and_eq_true]at h;rw[List.getElem?_cons_succ]at hj;have:=sP h.2 j kj hj;have e:i+(j+1)=Nat.add i 1+j:=by show i+(j+1)=(i+1)+j;omega
  rw[e];exact this
def PS(n:Hp->ab):Prop:=(∃v,∀h,n h=.val v h)∨∀h v h',n h≠.val v h'
def PS.same(v:AV):PS λh=>.val v h:=.inl ⟨v,λ_=>rfl⟩
def PS.bad(s:String):PS λ_=>.bad s:=.inr λ_ _ _ h=>by cases h
def PS.nd{α:Type}{o:Option α}{s:String}{f:α->Hp->ab}(h:∀a,PS (f a)):PS λk=>nd o s λa=>f a k:=by
 cases o with
 |none=>exact PS.bad s
 |some a=>exact h a
def PS.guard{b:Bool}{s:String}{n:Hp->ab}(h:PS n):PS λk=>aA b s (n k):=by
 cases b with
 |true=>exact h
 |false=>exact PS.bad s
def PS.ifE{b:Bool}{x y:Hp->ab}(hx:PS x)(hy:PS y):PS λk=>Eng.ifE b (x k) (y k):=by
 cases b with
 |true=>exact hx
 |false=>exact hy
def PS.aw{α:Type}{o:Option α}{e:Hp->ab}{f:α->Hp->ab}(he:PS e)(h:∀a,PS (f a)):PS λk=>Eng.aw o (e k) λa=>f a k:=by
 cases o with
 |none=>exact he
 |some a=>exact h a
def PS.sF{x:AV}{e:Hp->ab}{f:Nat->Nat->Nat->Nat->Hp->ab}(he:PS e)(h:∀a b c d,PS (f a b c d)):PS λk=>Eng.sF x (e k) λa b c d=>f a b c d k:=by
 cases x with
 |one c=>cases c with
  |o q=>cases q<;>first|exact he|exact h _ _ _ _
  |b _=>exact he
  |i _ _=>exact he
 |agg _=>exact he
 |tup _=>exact he
 |any=>exact he
def PS.slE{x:AV}{e:Hp->ab}{f:Nat->Nat->Nat->Nat->Nat->Hp->ab}(he:PS e)(h:∀a b c d g,PS (f a b c d g)):PS λk=>Eng.slE x (e k) λa b c d g=>f a b c d g k:=by
 cases x with
 |one c=>cases c with
  |o q=>cases q<;>first|exact he|exact h _ _ _ _ _
  |b _=>exact he
  |i _ _=>exact he
 |agg _=>exact he
 |tup _=>exact he
 |any=>exact he
def PS.dY{x:AV}{e:Hp->ab}{f:IntKind->Int->Hp->ab}(he:PS e)(h:∀a b,PS (f a b)):PS λk=>Eng.dY x (e k) λa b=>f a b k:=by
 cases x with
 |one c=>cases c with
  |o q=>exact he
  |b _=>exact he
  |i _ _=>exact h _ _
 |agg _=>exact he
 |tup _=>exact he
 |any=>exact he
def PS.dO{x:AV}{e:Hp->ab}{f:Bool->Hp->ab}(he:PS e)(h:∀a,PS (f a)):PS λk=>Eng.dO x (e k) λa=>f a k:=by
 cases x with
 |one c=>cases c with
  |o q=>exact he
  |b _=>exact h _
  |i _ _=>exact he
 |agg _=>exact he
 |tup _=>exact he
 |any=>exact he
def PS.gZ{x:AV}{e:Hp->ab}{f:List UInt8->Hp->ab}(he:PS e)(h:∀a,PS (f a)):PS λk=>Eng.gZ x (e k) λa=>f a k:=by
 cases x with
 |one c=>cases c with
  |o q=>cases q<;>first|exact he|exact h _
  |b _=>exact he
  |i _ _=>exact he
 |agg _=>exact he
 |tup _=>exact he
 |any=>exact he
section
variable{P:Program}
theorem qq{tm:PT AV}{o:Oper}:PS λh=>aq P tm h o:=by
 unfold aq;refine PS.guard ?_;cases ax P (execOp (λx=>bk (ev tm x)) o)with
 |none=>exact PS.bad _
 |some n=>cases n<;>first|exact PS.bad _|exact PS.guard (PS.same _)
theorem sK(i:Nat):∀l:List (Bool×List AC),PS λH=>Nat.rec (motive:=λ_=>List (Bool×List AC)->ab)
   (λl=>List.rec (motive:=λ_=>ab) (.bad "extract") (λx _ _=>
    Eng.ifE x.1 (.val (.agg x.2) H) (List.rec (motive:=λ_=>ab) (.bad "extract") (λc m _=>List.rec (motive:=λ_=>ab) (.val (.one c) H) (λ_ _ _=>.bad "extract") m) x.2)) l)
   (λ_ ih l=>List.rec (motive:=λ_=>ab) (.bad "extract") (λ_ l' _=>ih l') l) i l:=by
 induction i with
 |zero=>
  intro l;cases l with
  |nil=>exact PS.bad _
  |cons x l=>
   refine PS.ifE (PS.same _) ?_;obtain⟨b,c⟩:=x
   cases c with
   |nil=>exact PS.bad _
   |cons y c=>cases c<;>first|exact PS.same _|exact PS.bad _
 |succ i ih=>
  intro l;cases l with
  |nil=>exact PS.bad _
  |cons x l=>exact ih l
theorem Jg{x:AV}{i:Nat}:PS λH=>bV H x i:=by
 cases x with
 |tup l=>exact sK i l
 |one _=>exact PS.bad _
 |agg _=>exact PS.bad _
 |any=>exact sK i []
theorem XW{kd:Nat}{op:BinOp}{f:BF}{x y:AV}{alt:Hp->ab}(ha:PS alt):PS λH=>bp H kd op f x y (alt H):=by
 cases x with
 |one c=>cases c with
  |o q=>
   show PS λH=>jV H kd op (.one (.o q)) y (alt H);unfold jV;refine PS.gZ ?_ λ_=>PS.gZ ha λ_=>PS.aw ha λ_=>PS.same _;unfold nS;cases Lo kd (.one (.o q)) y with
   |none=>exact ha
   |some b=>cases op<;>first|exact PS.same _|exact PS.bad _
  |b _=>exact ha
  |i k a=>
   show PS λH=>Eng.dY y (alt H) λk' b=>kD H f k a k' b (alt H);exact PS.dY ha λk' b=>PS.ifE (by cases f<;>first|exact PS.same _|exact ha) ha
 |agg _=>exact ha
 |tup _=>exact ha
 |any=>exact ha
theorem QG{fo n:Nat}{a:Bool}{x:AV}:PS λH=>rJ H fo n a x:=by
 cases x with
 |agg l=>exact PS.ifE (PS.guard (PS.same _)) (PS.nd λ_=>PS.same _)
 |one _=>exact PS.bad _
 |tup _=>exact PS.bad _
 |any=>exact PS.bad _
theorem HA{x:AV}:PS λH=>ga H x:=by
 cases x with
 |one c=>cases c with
  |o q=>cases q<;>first|exact PS.bad _|exact PS.same _
  |b _=>exact PS.bad _
  |i _ _=>exact PS.bad _
 |agg _=>exact PS.bad _
 |tup _=>exact PS.bad _
 |any=>exact PS.bad _
theorem SF.Ji{α:Type}{o:Option α}{s:String}{f:α->SF}{tm:PT AV}(h:∀a,PS ((f a).run tm)):PS ((ndF o s f).run tm):=by
 cases o with
 |none=>exact PS.bad _
 |some a=>exact h a
theorem SF.ifPS{b:Bool}{s:String}{f:SF}{tm:PT AV}(h:PS (f.run tm)):PS ((Eng.ifE b f (ee s)).run tm):=by
 cases b with
 |false=>exact PS.bad _
 |true=>exact h
theorem Nc{tm:PT AV}{o:Oper}(hk:opK o=0):PS ((aI P o).run tm):=by
 have hp:∀o,PS λH=>aq P tm H o:=λ_=>qq;obtain⟨dst,op,type,pos,after,guard⟩:=o
 cases op with
 |move x=>cases x<;>exact PS.same _
 |assign x=>cases x<;>exact PS.same _
 |pick c x y=>exact PS.dO (PS.bad _) λ_=>PS.same _
 |build t parts=>exact SF.Ji λ_=>SF.Ji λ_=>SF.Ji λ_=>PS.nd λ_=>PS.same _
 |nilCheck x=>exact HA
 |binOp op t x y c=>exact XW (hp _)
 |unOp op t x=>
  show PS λH=>JE H op _ (aq P tm H _);unfold JE;cases op<;>first|exact PS.dO qq λ_=>PS.same _|exact qq
 |convert s d x=>exact hp _
 |fieldAddr s x f=>exact SF.Ji λ_=>PS.sF (PS.bad _) λ_ _ _ _=>PS.guard (PS.same _)
 |field t x f=>exact SF.Ji λ_=>SF.Ji λ_=>QG
 |indexAddr t x i=>exact SF.Ji λ_=>PS.slE (PS.bad _) λ_ _ _ _ _=>PS.dY (PS.bad _) λ_ _=>PS.nd λ_=>PS.guard (PS.same _)
 |index t x i=>exact PS.ifE (PS.gZ (hp _) λ_=>PS.dY (hp _) λ_ _=>PS.nd λ_=>PS.nd λ_=>PS.same _) (hp _)
 |slice t x lo hi mx=>
  cases mx with
  |some _=>exact PS.bad _
  |none=>
   cases he:bt P t with
   |none=>
    have:aI P ⟨dst,.slice t x lo hi none,type,pos,after,guard⟩=.mk λtm h=>aq P tm h ⟨dst,.slice t x lo hi none,type,pos,after,guard⟩:=by
     simp[aI,he]
    rw[this];exact hp _
   |some p=>
    have:aI P ⟨dst,.slice t x lo hi none,type,pos,after,guard⟩=.mk λtm h=>cR h p.2 ((opF x).ev tm) (lo.map (ev tm)) (hi.map (ev tm)) (aq P tm h ⟨dst,.slice t x lo hi none,type,pos,after,guard⟩):=by
     simp[aI,he]
    rw[this];exact PS.slE (hp _) λ_ _ _ _ _=>PS.nd λ_=>PS.nd λ_=>PS.guard (PS.same _)
 |extract x i=>exact Jg
 |makeFunc fn first caps=>
  cases fn with
  |func f=>exact SF.ifPS (PS.nd λ_=>PS.same _)
  |_=>exact PS.bad _
 |call c=>
  exfalso;revert hk
  show opK ⟨dst,.call c,type,pos,after,guard⟩=0->False;unfold opK;intro hk;split at hk<;>first|exact absurd hk (by decide)|(rename_i h;cases h)
 |_=>cases hk
def NS(n:Hp->ab):Prop:=∀h v h',n h=.val v h'->∃x,h'=h.new x∧∀k:Hp,k.nx=h.nx->n k=.val v (k.new x)
theorem NS.mk(f:Nat->AV)(x:aJ):NS λh=>.val (f h.nx) (h.new x):=λh v h' e=>by
 injection e with e1 e2
 subst e1 e2;exact⟨x,rfl,λk hk=>by simp only[hk]⟩
theorem NS.bad(s:String):NS λ_=>.bad s:=λ_ _ _ h=>by cases h
theorem NS.nd{α:Type}{o:Option α}{s:String}{f:α->Hp->ab}(h:∀a,NS (f a)):NS λk=>nd o s λa=>f a k:=by
 cases o with
 |none=>exact NS.bad s
 |some a=>exact h a
theorem NS.guard{b:Bool}{s:String}{n:Hp->ab}(h:NS n):NS λk=>aA b s (n k):=by
 cases b with
 |true=>exact h
 |false=>exact NS.bad s
theorem NS.dY{x:AV}{e:Hp->ab}{f:IntKind->Int->Hp->ab}(he:NS e)(h:∀a b,NS (f a b)):NS λk=>Eng.dY x (e k) λa b=>f a b k:=by
 cases x with
 |one c=>cases c with
  |o q=>exact he
  |b _=>exact he
  |i _ _=>exact h _ _
 |agg _=>exact he
 |tup _=>exact he
 |any=>exact he
theorem Bi{c:List AC}{e:TypeId}:NS λH=>jx H c e:=NS.mk (λn=>.one (.o (.ptr n 0 0 (bq c)))) _
theorem SF.Vf{α:Type}{o:Option α}{s:String}{f:α->SF}{tm:PT AV}(h:∀a,NS ((f a).run tm)):NS ((ndF o s f).run tm):=by
 cases o with
 |none=>exact NS.bad _
 |some a=>exact h a
theorem SF.ifNS{b:Bool}{s:String}{f:SF}{tm:PT AV}(h:NS (f.run tm)):NS ((Eng.ifE b f (ee s)).run tm):=by
 cases b with
 |false=>exact NS.bad _
 |true=>exact h
theorem LP{tm:PT AV}{o:Oper}(hk:opK o=1):NS ((aI P o).run tm):=by
 obtain⟨dst,op,type,pos,after,guard⟩:=o
 cases op with
 |alloc e=>exact SF.Vf λ_=>Bi
 |box e x=>exact NS.guard Bi
 |buildSlice t len parts=>exact SF.Vf λes=>SF.Vf λ_=>SF.ifNS (SF.Vf λ_=>NS.nd λ_=>NS.mk (λn=>.one (.o (.sl n 0 0 len es.2))) _)
 |makeSlice t l c=>exact NS.nd λes=>NS.nd λ_=>NS.nd λ_=>NS.dY (NS.bad _) λ_ _=>NS.dY (NS.bad _) λ_ _=>NS.nd λk=>NS.nd λ_=>NS.guard (NS.mk (λn=>.one (.o (.sl n 0 0 k es.2))) _)
 |makeMap t r=>
  cases r with
  |some _=>exact NS.bad _
  |none=>exact NS.mk (λn=>.one (.o (.mp n))) _
 |call c=>
  exfalso;revert hk
  show opK ⟨dst,.call c,type,pos,after,guard⟩=1->False;unfold opK;intro hk;split at hk<;>first|exact absurd hk (by decide)|(rename_i h;cases h)
 |_=>cases hk
end
def dw(o:Oper):List Operand:=
 match o.op with
 |.load _ x=>[x]
 |.lookup _ x _ _=>[x]
 |.mapUpdate _ x _ _=>[x]
 |.store _ a _=>[a]
 |.call ⟨.builtin .len,⟨[x]⟩,_⟩=>[x]
 |.call ⟨.builtin .append,⟨[s,x]⟩,_⟩=>[s,x]
 |_=>[]
def uC{o:Oper}{x:Operand}(h:x∈dw o):x∈o.op.operands.toList:=by
 obtain⟨dst,op,type,pos,after,guard⟩:=o
 unfold dw at h;split at h
 ·rename_i hh;cases hh;simp at h;subst h;simp[Op.operands]
 ·rename_i hh;cases hh;simp at h;subst h;simp[Op.operands]
 ·rename_i hh;cases hh;simp at h;subst h;simp[Op.operands]
 ·rename_i hh;cases hh;simp at h;subst h;simp[Op.operands]
 ·rename_i hh;cases hh;simp at h;subst h;simp[Op.operands,Call.operands]
 ·rename_i hh;cases hh;simp at h;rcases h with rfl|rfl<;>simp[Op.operands,Call.operands]
 cases h
def Agr(o:Oper)(tm:PT AV)(H h:Hp):Prop:=h.nx=H.nx∧∀x∈dw o,∀id∈(ev tm x).ids,h.get id=H.get id
def xY(P:Program)(o:Oper):Prop:=∀tm H v H',(aI P o).run tm H=.val v H'->H'=H∧∀h,Agr o tm H h->(aI P o).run tm h=.val v h
def PS.look{P:Program}{o:Oper}(h:∀tm,PS ((aI P o).run tm)):xY P o:=λtm H v H' e=>by
 rcases h tm with⟨v',h'⟩|h'
 ·have e':=(h' H).symm.trans e;injection e' with e1 e2
  subst e1;exact⟨e2.symm,λk _=>h' k⟩
 exact absurd e (h' H v H')
def Qc{P:Program}{d:Option Tmp}{x:Operand}{t:TypeId}{ty:TypeId}{pos:String}{af:Array Edge}{g:Option (Nat×Bool)}:xY P ⟨d,.call ⟨.builtin .len,⟨[x]⟩,⟨[t]⟩⟩,ty,pos,af,g⟩:=by
 intro tm H v H' h;have e:∀h,(aI P ⟨d,.call ⟨.builtin .len,⟨[x]⟩,⟨[t]⟩⟩,ty,pos,af,g⟩).run tm h=(ndF (eR P t) "len - type" λk=>.mk λtm h=>cW h k (ev tm x)).run tm h:=λh=>rfl
 rw[e]at h;cases hk:eR P t with
 |none=>rw[hk]at h;cases h
 |some k=>
  rw[hk]at h;have h':cW H k (ev tm x)=.val v H':=h;have key:∀h,cW h k (ev tm x)=.val v h->(aI P ⟨d,.call ⟨.builtin .len,⟨[x]⟩,⟨[t]⟩⟩,ty,pos,af,g⟩).run tm h=.val v h:=λh hh=>by rw[e,hk];exact hh
  match k with
  |0=>
   have p:PS λh=>cW h 0 (ev tm x):=PS.gZ (PS.bad _) λ_=>PS.same _;rcases p with⟨v',p⟩|p
   ·have h2:=(p H).symm.trans h';injection h2 with e1 e2;subst e1;exact⟨e2.symm,λk _=>key k (p k)⟩
   exact absurd h' (p H v H')
  |1=>
   have p:PS λh=>cW h 1 (ev tm x):=PS.slE (PS.guard (PS.same _)) λ_ _ _ _ _=>PS.same _;rcases p with⟨v',p⟩|p
   ·have h2:=(p H).symm.trans h';injection h2 with e1 e2;subst e1;exact⟨e2.symm,λk _=>key k (p k)⟩
   exact absurd h' (p H v H')
  |k+2=>
   have h2:dK H (ev tm x)=.val v H':=h';unfold dK at h2;split at h2
   ·injection h2 with e1 e2
    rename_i hx
    refine⟨e2.symm,λk _=>key k ?_⟩
    show dK k (ev tm x)=_;rw[hx,<-e1];rfl
   ·rename_i id hx
    split at h2
    ·rename_i es c hg
     injection h2 with e1 e2
     refine⟨e2.symm,λk hk=>key k ?_⟩
     show dK k (ev tm x)=_;have hid:k.get id=H.get id:=hk.2 x (by simp[dw]) id (by rw[hx];exact List.mem_singleton.2 rfl);rw[hx,<-e1];unfold dK;simp only[hid,hg]
    cases h2
   cases h2
def sL{P:Program}{d:Option Tmp}{b:Builtin}(hb:b=.min∨b=.max){xs:Array Operand}{ts:Array TypeId}{ty:TypeId}{pos:String}{af:Array Edge}{g:Option (Nat×Bool)}:xY P ⟨d,.call ⟨.builtin b,xs,ts⟩,ty,pos,af,g⟩:=by
 refine PS.look λtm=>?_;have e:(aI P ⟨d,.call ⟨.builtin b,xs,ts⟩,ty,pos,af,g⟩).run tm=λh=>aq P tm h ⟨d,.call ⟨.builtin b,xs,ts⟩,ty,pos,af,g⟩:=by
  rcases hb with rfl|rfl<;>rfl
 rw[e];exact qq
def Pc{P:Program}{d:Option Tmp}{t:TypeId}{x:Operand}{ty:TypeId}{pos:String}{af:Array Edge}{g:Option (Nat×Bool)}:xY P ⟨d,.load t x,ty,pos,af,g⟩:=by
 intro tm H v H' h;have hx:∃id gn off lim,ev tm x=.one (.o (.ptr id gn off lim)):=by
  cases ht:loadT P t with
  |none=>
   have e:(aI P ⟨d,.load t x,ty,pos,af,g⟩).run tm H=.bad "load - type" := by
    show(ndF (loadT P t) _ _).run tm H=_
    rw[ht];rfl
   rw[e]at h;cases h
  |some p=>
   rw[Ns t x ht]at h;unfold cH at h;cases hv:ev tm x with
   |one c=>cases c with
    |o q=>cases q<;>first|exact⟨_,_,_,_,rfl⟩|(rw[hv]at h;cases h)
    |b _=>rw[hv]at h;cases h
    |i _ _=>rw[hv]at h;cases h
   |agg _=>rw[hv]at h;cases h
   |tup _=>rw[hv]at h;cases h
   |any=>rw[hv]at h;cases h
 obtain⟨id,gn,off,lim,hx⟩:=hx
 obtain⟨e1,_,h3⟩:=PI hx h
 exact⟨e1,λk hk=>h3 k (hk.2 x (by simp[dw]) id (by rw[hx];exact List.mem_singleton.2 rfl))⟩
def gH{H H':Hp}{ok b:Bool}{x v:AV}(h:aV H ok x b=.val v H'):H'=H∧∀h,aV h ok x b=.val v h:=by
 unfold aV at h ⊢;cases ok with
 |false=>injection h with e1 e2;exact⟨e2.symm,λk=>by rw[<-e1]⟩
 |true=>
  cases hn:x.bz with
  |false=>simp only[hn]at h;cases h
  |true=>
   simp only[hn]at h ⊢;injection h with e1 e2
   exact⟨e2.symm,λk=>by rw[<-e1];rfl⟩
def JN{P:Program}{H H':Hp}{kt:TypeId}{z k v:AV}{ok:Bool}{l:List (Int×AV)}(h:lY P H kt z k ok l=.val v H'):H'=H∧∀h',lY P h' kt z k ok l=.val v h':=by
 unfold lY at h ⊢;cases hk:Nat.beq (bf P kt) 1 with
 |false=>rw[hk]at h;cases h
 |true=>
  rw[hk]at h;cases k with
  |one c=>
   cases c with
   |i kd n=>
    cases hs:sameKind kd .i64 with
    |false=>
     have h0:aA (sameKind kd .i64) "lookup - key" (aw (de n l) (aV H ok z false) λv=>aV H ok v true)=.val v H':=h
     rw[hs]at h0;cases h0
    |true=>
     have h0:aA (sameKind kd .i64) "lookup - key" (aw (de n l) (aV H ok z false) λv=>aV H ok v true)=.val v H':=h
     rw[hs]at h0;have h1:aw (de n l) (aV H ok z false) (λv=>aV H ok v true)=.val v H':=h0;have goal:(∀h',aw (de n l) (aV h' ok z false) (λv=>aV h' ok v true)=.val v h')->∀h',aA true "lookup - key" (dY (.one (.i kd n)) (.bad "lookup - key") λkd n=>aA (sameKind kd .i64) "lookup - key" (aw (de n l) (aV h' ok z false) λv=>aV h' ok v true))=.val v h':=λg h'=>by
      show aA (sameKind kd .i64) "lookup - key" (aw (de n l) (aV h' ok z false) λv=>aV h' ok v true)=_
      rw[hs];exact g h'
     cases hl:de n l with
     |none=>
      rw[hl]at h1 goal;obtain⟨e1,e2⟩:=gH h1
      exact⟨e1,goal e2⟩
     |some u=>
      rw[hl]at h1 goal;obtain⟨e1,e2⟩:=gH h1
      exact⟨e1,goal e2⟩
   |b _=>cases h
   |o _=>cases h
  |agg _=>cases h
  |tup _=>cases h
  |any=>cases h
def HE{P:Program}{d:Option Tmp}{t:TypeId}{m k:Operand}{ok:Bool}{ty:TypeId}{pos:String}{af:Array Edge}{g:Option (Nat×Bool)}:xY P ⟨d,.lookup t m k ok,ty,pos,af,g⟩:=by
 intro tm H v H' h;have e:∀h,(aI P ⟨d,.lookup t m k ok,ty,pos,af,g⟩).run tm h=(ndF (fW P t) "lookup - type" λp=>ndF (ay P p.2) "lookup - zero" λz=>.mk λtm h=>aX P h p.1 (ofValue z) (ev tm m) (ev tm k) ok).run tm h:=λh=>rfl
 rw[e]at h;cases hm:fW P t with
 |none=>rw[hm]at h;cases h
 |some p=>
  cases hz:ay P p.2 with
  |none=>
   have h0:(ndF (fW P t) "lookup - type" λp=>ndF (ay P p.2) "lookup - zero" λz=>.mk λtm h=>aX P h p.1 (ofValue z) (ev tm m) (ev tm k) ok).run tm H=.bad "lookup - zero" := by
    rw[hm];show(ndF (ay P p.2) "lookup - zero" λz=>.mk λtm h=>aX P h p.1 (ofValue z) (ev tm m) (ev tm k) ok).run tm H=_
    rw[hz];rfl
   rw[h0]at h;cases h
  |some z=>
   have e2:∀h,(ndF (fW P t) "lookup - type" λp=>ndF (ay P p.2) "lookup - zero" λz=>.mk λtm h=>aX P h p.1 (ofValue z) (ev tm m) (ev tm k) ok).run tm h=aX P h p.1 (ofValue z) (ev tm m) (ev tm k) ok:=λh=>by
    rw[hm];show(ndF (ay P p.2) "lookup - zero" λz=>.mk λtm h=>aX P h p.1 (ofValue z) (ev tm m) (ev tm k) ok).run tm h=_
    rw[hz];rfl
   rw[e2]at h;have key:∀h,aX P h p.1 (ofValue z) (ev tm m) (ev tm k) ok=.val v h->(aI P ⟨d,.lookup t m k ok,ty,pos,af,g⟩).run tm h=.val v h:=λh hh=>by rw[e,e2];exact hh
   unfold aX at h;split at h
   ·rename_i hx
    cases hk:fq P true p.1 (ev tm k)with
    |none=>rw[hk]at h;cases h
    |some u=>
     rw[hk]at h;obtain⟨e1,e3⟩:=gH h
     refine⟨e1,λh' _=>key h' ?_⟩
     unfold aX;rw[hx];show nd (fq P true p.1 (ev tm k)) _ _=_;rw[hk];exact e3 h'
   ·rename_i id hx
    split at h
    ·rename_i es c hg
     cases hk:fq P es.isEmpty p.1 (ev tm k)with
     |none=>rw[hk]at h;cases h
     |some u=>
      rw[hk]at h;have sub:∀h',Agr ⟨d,.lookup t m k ok,ty,pos,af,g⟩ tm H h'->aX P h' p.1 (ofValue z) (ev tm m) (ev tm k) ok=(match iV P p.1 (ev tm k) es with|some (some e)=>aV h' ok e.val true|some none=>aV h' ok (ofValue z) false|none=>.bad "lookup - keys"):=λh' ha=>by
       have hid:h'.get id=some (.oth (.map es c)):=(ha.2 m (by simp[dw]) id (by rw[hx];exact List.mem_singleton.2 rfl)).trans hg;unfold aX;rw[hx];simp only[hid,hk];rfl
      have h2:(match iV P p.1 (ev tm k) es with|some (some e)=>aV H ok e.val true|some none=>aV H ok (ofValue z) false|none=>.bad "lookup - keys")=.val v H':=h
      cases hf:iV P p.1 (ev tm k) es with
      |none=>rw[hf]at h2;cases h2
      |some r=>
       cases r with
       |none=>
        rw[hf]at h2;obtain⟨e1,e3⟩:=gH h2
        exact⟨e1,λh' ha=>key h' (by rw[sub h' ha,hf];exact e3 h')⟩
       |some en=>
        rw[hf]at h2;obtain⟨e1,e3⟩:=gH h2
        exact⟨e1,λh' ha=>key h' (by rw[sub h' ha,hf];exact e3 h')⟩
    ·rename_i l hg
     have sub:∀h',Agr ⟨d,.lookup t m k ok,ty,pos,af,g⟩ tm H h'->aX P h' p.1 (ofValue z) (ev tm m) (ev tm k) ok=lY P h' p.1 (ofValue z) (ev tm k) ok l:=λh' ha=>by
      have hid:h'.get id=some (.oth (.fmap l)):=(ha.2 m (by simp[dw]) id (by rw[hx];exact List.mem_singleton.2 rfl)).trans hg;unfold aX;rw[hx];simp only[hid]
     obtain⟨e1,e3⟩:=JN h
     exact⟨e1,λh' ha=>key h' (by rw[sub h' ha];exact e3 h')⟩
    cases h
   cases h
def Am{P:Program}{o:Oper}(hk:opK o=2):xY P o:=by
 obtain⟨dst,op,type,pos,after,guard⟩:=o
 cases op with
 |load t x=>exact Pc
 |lookup t m k ok=>exact HE
 |call c=>
  obtain⟨ce,as,ts⟩:=c
  have O3:=hk;unfold opK at O3;split at O3<;>first|exact absurd O3 (by decide)|skip
  ·rename_i h;cases h
  ·rename_i h;cases h
  ·rename_i h;cases h;exact Qc
  ·rename_i h;cases h;exact sL (.inl rfl)
  rename_i h;cases h;exact sL (.inr rfl)
 |_=>cases hk
def WY(P:Program)(o:Oper):Prop:=∀tm H v H',(aI P o).run tm H=.val v H' ->
 (H'=H∧∀h,Agr o tm H h->(aI P o).run tm h=.val v h) ∨
 (∃x,H'=H.new x∧∀h,Agr o tm H h->(aI P o).run tm h=.val v (h.new x)) ∨
 (∃id x k,H'=H.mod id x∧H.get id=some k∧(∃y∈dw o,id∈(ev tm y).ids)∧∀h,Agr o tm H h->(aI P o).run tm h=.val v (h.mod id x))
def OG{P:Program}{d:Option Tmp}{t:TypeId}{a x:Operand}{ty:TypeId}{pos:String}{af:Array Edge}{g:Option (Nat×Bool)}:WY P ⟨d,.store t a x,ty,pos,af,g⟩:=by
 intro tm H v H' h;have hx:∃id gn off lim,ev tm a=.one (.o (.ptr id gn off lim)):=by
  cases ht:aT P t with
  |none=>
   have e:(aI P ⟨d,.store t a x,ty,pos,af,g⟩).run tm H=.bad "store - type" := by
    show(ndF (aT P t) _ _).run tm H=_
    rw[ht];rfl
   rw[e]at h;cases h
  |some p=>
   rw[FR t a x ht]at h;unfold im at h;cases hv:ev tm a with
   |one c=>cases c with
    |o q=>cases q<;>first|exact⟨_,_,_,_,rfl⟩|(rw[hv]at h;cases h)
    |b _=>rw[hv]at h;cases h
    |i _ _=>rw[hv]at h;cases h
   |agg _=>rw[hv]at h;cases h
   |tup _=>rw[hv]at h;cases h
   |any=>rw[hv]at h;cases h
 obtain⟨id,gn,off,lim,hx⟩:=hx
 obtain⟨o,e1,⟨k,e2⟩,h3⟩:=OT hx h
 have M1:id∈(ev tm a).ids:=by rw[hx];exact List.mem_singleton.2 rfl
 exact .inr (.inr ⟨id,o,k,e1,e2,⟨a,by simp[dw],M1⟩,λh hk=>h3 h (hk.2 a (by simp[dw]) id M1)⟩)
def Jx{P:Program}{d:Option Tmp}{t:TypeId}{m k x:Operand}{ty:TypeId}{pos:String}{af:Array Edge}{g:Option (Nat×Bool)}:WY P ⟨d,.mapUpdate t m k x,ty,pos,af,g⟩:=by
 intro tm H v H' h;have e:∀h,(aI P ⟨d,.mapUpdate t m k x,ty,pos,af,g⟩).run tm h=(ndF (fW P t) "mapUpdate - type" λp=>.mk λtm h=>aU P h p.1 (ev tm m) (ev tm k) (ev tm x)).run tm h:=λh=>rfl
 rw[e]at h;cases hm:fW P t with
 |none=>rw[hm]at h;cases h
 |some p=>
  rw[hm]at h;have h1:aU P H p.1 (ev tm m) (ev tm k) (ev tm x)=.val v H':=h;clear h;have key:∀{h:Hp}{r:ab},aU P h p.1 (ev tm m) (ev tm k) (ev tm x)=r->(aI P ⟨d,.mapUpdate t m k x,ty,pos,af,g⟩).run tm h=r:=λ{h r}hh=>by rw[e,hm];exact hh
  unfold aU at h1;split at h1
  ·rename_i id hx
   split at h1
   ·rename_i es c hg
    have M1:id∈(ev tm m).ids:=by rw[hx];exact List.mem_singleton.2 rfl
    have sub:∀h',Agr ⟨d,.mapUpdate t m k x,ty,pos,af,g⟩ tm H h'->aU P h' p.1 (ev tm m) (ev tm k) (ev tm x)=(nd (fq P false p.1 (ev tm k)) "mapUpdate - key" λ_=>aA (both (ev tm k).bz (ev tm x).bz) "mapUpdate - tuple" <| nd (mR P p.1 (ev tm k) (ev tm x) es) "mapUpdate - keys" λr=>
      ifE r.1 (.val aD (h'.mod id (.oth (.map r.2 c)))) (.val aD (h'.mod id (.oth (.map (es++[⟨ev tm k,ev tm x,c⟩]) (Nat.add c 1)))))):=λh' ha=>by
     have hid:h'.get id=some (.oth (.map es c)):=(ha.2 m (by simp[dw]) id M1).trans hg;unfold aU;rw[hx];simp only[hid]
    cases hk:fq P false p.1 (ev tm k)with
    |none=>rw[hk]at h1;cases h1
    |some u=>
     rw[hk]at h1;cases hn:both (ev tm k).bz (ev tm x).bz with
     |false=>
      have h2:aA (both (ev tm k).bz (ev tm x).bz) "mapUpdate - tuple" _=_:=h1
      rw[hn]at h2;cases h2
     |true=>
      have h2:aA (both (ev tm k).bz (ev tm x).bz) "mapUpdate - tuple" _=_:=h1
      rw[hn]at h2;cases hp:mR P p.1 (ev tm k) (ev tm x) es with
      |none=>
       have h3:nd (mR P p.1 (ev tm k) (ev tm x) es) "mapUpdate - keys" _=_:=h2
       rw[hp]at h3;cases h3
      |some r=>
       have h3:nd (mR P p.1 (ev tm k) (ev tm x) es) "mapUpdate - keys" _=_:=h2
       rw[hp]at h3;have sub2:∀h',Agr ⟨d,.mapUpdate t m k x,ty,pos,af,g⟩ tm H h'->aU P h' p.1 (ev tm m) (ev tm k) (ev tm x)=ifE r.1 (.val aD (h'.mod id (.oth (.map r.2 c)))) (.val aD (h'.mod id (.oth (.map (es++[⟨ev tm k,ev tm x,c⟩]) (Nat.add c 1))))):=λh' ha=>by
        rw[sub h' ha,hk];show aA (both (ev tm k).bz (ev tm x).bz) _ _=_;rw[hn];show nd (mR P p.1 (ev tm k) (ev tm x) es) _ _=_;rw[hp];rfl
       obtain⟨rb,rl⟩:=r
       cases rb with
       |true=>
        have h4:ab.val aD (H.mod id (.oth (.map rl c)))=.val v H':=h3;injection h4 with e1 e2
        exact .inr (.inr ⟨id,_,_,e2.symm,hg,⟨m,by simp[dw],M1⟩,λh' ha=>key (by rw[sub2 h' ha,<-e1];rfl)⟩)
       |false=>
        have h4:ab.val aD (H.mod id (.oth (.map (es++[⟨ev tm k,ev tm x,c⟩]) (Nat.add c 1))))=.val v H':=h3;injection h4 with e1 e2
        exact .inr (.inr ⟨id,_,_,e2.symm,hg,⟨m,by simp[dw],M1⟩,λh' ha=>key (by rw[sub2 h' ha,<-e1];rfl)⟩)
   cases h1
  cases h1
def YM{id g off len sz:Nat}:(AV.one (.o (.sl id g off len sz))).ids=[id]:=rfl
def Pd{H h:Hp}{sz:Nat}{x:AV}(hk:∀id∈x.ids,h.get id=H.get id):jt h sz x=jt H sz x:=by
 unfold jt;split
 ·rename_i id g off len sz'
  have:eN h id g off (Nat.mul len sz) (Nat.mul len sz)=eN H id g off (Nat.mul len sz) (Nat.mul len sz):=by
   unfold eN;rw[hk id (by rw[YM];exact List.mem_singleton.2 rfl)]
  rw[this]
 ·rfl
 rfl
def Jr{P:Program}{d:Option Tmp}{s x:Operand}{t t2:TypeId}{ty:TypeId}{pos:String}{af:Array Edge}{g:Option (Nat×Bool)}:WY P ⟨d,.call ⟨.builtin .append,⟨[s,x]⟩,⟨[t,t2]⟩⟩,ty,pos,af,g⟩:=by
 intro tm H v H' h;have e:∀h,(aI P ⟨d,.call ⟨.builtin .append,⟨[s,x]⟩,⟨[t,t2]⟩⟩,ty,pos,af,g⟩).run tm h=(Eng.ifE (Nat.beq t t2) (.mk λtm h=>bh P h t (ev tm s) (ev tm x)) (ee "append - types"):SF).run tm h:=λh=>rfl
 rw[e]at h;cases hb:Nat.beq t t2 with
 |false=>rw[hb]at h;cases h
 |true=>
  rw[hb]at h;have h1:bh P H t (ev tm s) (ev tm x)=.val v H':=h;have key:∀{h:Hp}{r:ab},bh P h t (ev tm s) (ev tm x)=r->(aI P ⟨d,.call ⟨.builtin .append,⟨[s,x]⟩,⟨[t,t2]⟩⟩,ty,pos,af,g⟩).run tm h=r:=λ{h r}hh=>by rw[e,hb];exact hh
  unfold bh at h1;cases h2:bt P t with
  |none=>rw[h2]at h1;cases h1
  |some es=>
  rw[h2]at h1;cases h3:cK P es.1 with
  |none=>have:(ab.bad "append - bytes")=.val v H':=by rw[<-h1];simp only[nd,h3]
         cases this
  |some by_=>
  cases h4:ay P es.1 with
  |none=>have:(ab.bad "append - zero")=.val v H':=by rw[<-h1];simp only[nd,h3,h4]
         cases this
  |some z=>
  cases h5:both (!Nat.beq es.2 0) (Nat.beq (bq (ofValue z).cells) es.2)with
  |false=>have:(ab.bad "append - size 0")=.val v H':=by rw[<-h1];simp only[nd,h3,h4,h5,aA]
          cases this
  |true=>
  cases h6:jt H es.2 (ev tm x)with
  |none=>have:(ab.bad "append - what is appended")=.val v H':=by rw[<-h1];simp only[nd,h3,h4,h5,aA,h6]
         cases this
  |some nc=>
  have h7:dp H es.1 es.2 by_ nc.1 nc.2 (ev tm s)=.val v H':=by rw[<-h1];simp only[nd,h3,h4,h5,aA,h6]
  have key2:∀{h:Hp}{r:ab},Agr ⟨d,.call ⟨.builtin .append,⟨[s,x]⟩,⟨[t,t2]⟩⟩,ty,pos,af,g⟩ tm H h->dp h es.1 es.2 by_ nc.1 nc.2 (ev tm s)=r->(aI P ⟨d,.call ⟨.builtin .append,⟨[s,x]⟩,⟨[t,t2]⟩⟩,ty,pos,af,g⟩).run tm h=r:=λ{h r}ha hh=>by
   refine key ?_;have e6:=(Pd (sz:=es.2) λid hid=>ha.2 x (by simp[dw]) id hid).trans h6;unfold bh;rw[h2];simp only[nd,h3,h4,h5,aA,e6];exact hh
  unfold dp at h7;split at h7
  ·rename_i hs
   cases h8:Nat.beq nc.1 0 with
   |true=>
    rw[h8]at h7;injection h7 with e1 e2
    refine .inl ⟨e2.symm,λh ha=>key2 ha ?_⟩;unfold dp;rw[hs]at e1 ⊢;simp only[h8];rw[<-e1];rfl
   |false=>
    rw[h8]at h7;cases h9:both (Nat.ble nc.1 140737488355328) (Nat.ble (Nat.mul nc.1 by_) 140737488355328)with
    |false=>have:(ab.bad "append - too much")=.val v H':=by rw[<-h7];simp only[Eng.ifE,aA,h9]
            cases this
    |true=>
     have h10:(ab.val (.one (.o (.sl H.nx 0 0 nc.1 es.2))) (H.new (.arr nc.2 es.1 0 0)))=.val v H':=by rw[<-h7];simp only[Eng.ifE,aA,h9]
     injection h10 with e1 e2
     refine .inr (.inl ⟨_,e2.symm,λh ha=>key2 ha ?_⟩);unfold dp;rw[hs];simp only[h8,Eng.ifE,aA,h9,ha.1];rw[<-e1]
  ·rename_i id g2 off len sz' hs
   have hid:id∈(ev tm s).ids:=by rw[hs];exact List.mem_singleton.2 rfl
   have hop:s∈dw ⟨d,.call ⟨.builtin .append,⟨[s,x]⟩,⟨[t,t2]⟩⟩,ty,pos,af,g⟩:=by simp[dw]
   cases hg:H.get id with
   |none=>rw[hg]at h7;cases h7
   |some ob=>
    cases ob with
    |oth q=>rw[hg]at h7;cases h7
    |ro q=>rw[hg]at h7;cases h7
    |arr cells e' lo gen=>
     rw[hg]at h7;have key3:∀{h:Hp}{r:ab},Agr ⟨d,.call ⟨.builtin .append,⟨[s,x]⟩,⟨[t,t2]⟩⟩,ty,pos,af,g⟩ tm H h->(aA (both (Nat.beq sz' es.2) (both (Nat.beq e' es.1) (both (Nat.ble lo g2) (both (Nat.ble g2 gen) (both (Nat.ble (Nat.add off (Nat.mul len es.2)) (bq cells))
       (both (Nat.ble (Nat.add len nc.1) 140737488355328) (Nat.ble (Nat.mul (Nat.add len nc.1) by_) 140737488355328))))))) "append - stale or too much"
      (Eng.ifE (Nat.beq nc.1 0) (.val (.one (.o (.sl id g2 off len sz'))) h)
       (Eng.ifE (both (Nat.beq g2 gen) (both (Nat.beq off 0) (Nat.beq (Nat.mul len es.2) (bq cells))))
        (.val (.one (.o (.sl id (Nat.add gen 1) 0 (Nat.add len nc.1) es.2))) (h.mod id (.arr (lL cells nc.2) es.1 lo (Nat.add gen 1))))
        (.val (.one (.o (.sl id (Nat.add gen 1) 0 (Nat.add len nc.1) es.2))) (h.mod id (.arr (lL (cut cells off (Nat.mul len es.2)) nc.2) es.1 (Nat.add gen 1) (Nat.add gen 1)))))))=r->(aI P ⟨d,.call ⟨.builtin .append,⟨[s,x]⟩,⟨[t,t2]⟩⟩,ty,pos,af,g⟩).run tm h=r:=λ{h r}ha hh=>by
      refine key2 ha ?_;unfold dp;rw[hs];simp only[nh,ha.2 s hop id hid,hg];exact hh
     have h8:(aA (both (Nat.beq sz' es.2) (both (Nat.beq e' es.1) (both (Nat.ble lo g2) (both (Nat.ble g2 gen) (both (Nat.ble (Nat.add off (Nat.mul len es.2)) (bq cells))
       (both (Nat.ble (Nat.add len nc.1) 140737488355328) (Nat.ble (Nat.mul (Nat.add len nc.1) by_) 140737488355328))))))) "append - stale or too much"
      (Eng.ifE (Nat.beq nc.1 0) (.val (.one (.o (.sl id g2 off len sz'))) H)
       (Eng.ifE (both (Nat.beq g2 gen) (both (Nat.beq off 0) (Nat.beq (Nat.mul len es.2) (bq cells))))
        (.val (.one (.o (.sl id (Nat.add gen 1) 0 (Nat.add len nc.1) es.2))) (H.mod id (.arr (lL cells nc.2) es.1 lo (Nat.add gen 1))))
        (.val (.one (.o (.sl id (Nat.add gen 1) 0 (Nat.add len nc.1) es.2))) (H.mod id (.arr (lL (cut cells off (Nat.mul len es.2)) nc.2) es.1 (Nat.add gen 1) (Nat.add gen 1)))))))=.val v H':=by
      rw[<-h7,hs];rfl
     cases hc:both (Nat.beq sz' es.2) (both (Nat.beq e' es.1) (both (Nat.ble lo g2) (both (Nat.ble g2 gen) (both (Nat.ble (Nat.add off (Nat.mul len es.2)) (bq cells)) (both (Nat.ble (Nat.add len nc.1) 140737488355328) (Nat.ble (Nat.mul (Nat.add len nc.1) by_) 140737488355328))))))with
     |false=>rw[hc]at h8;cases h8
     |true=>
      rw[hc]at h8;cases hn:Nat.beq nc.1 0 with
      |true=>
       rw[hn]at h8;injection h8 with e1 e2
       refine .inl ⟨e2.symm,λh ha=>key3 ha ?_⟩;rw[hc,hn,<-e1];rfl
      |false=>
       rw[hn]at h8;cases ht:both (Nat.beq g2 gen) (both (Nat.beq off 0) (Nat.beq (Nat.mul len es.2) (bq cells)))with
       |true=>
        rw[ht]at h8;injection h8 with e1 e2
        refine .inr (.inr ⟨_,_,_,e2.symm,hg,⟨s,hop,hid⟩,λh ha=>key3 ha ?_⟩);rw[hc,hn,ht,<-e1];rfl
       |false=>
        rw[ht]at h8;injection h8 with e1 e2
        refine .inr (.inr ⟨_,_,_,e2.symm,hg,⟨s,hop,hid⟩,λh ha=>key3 ha ?_⟩);rw[hc,hn,ht,<-e1];rfl
  cases h7
def ltV(v:AV)(n:Nat):Prop:=∀id∈v.ids,id<n
def LTo(o:Oper)(A:aa)(H:Hp):Prop:=
 match o.op with
 |.load _ x=>ltV (ev A.tm x) H.nx
 |.lookup _ x _ _=>ltV (ev A.tm x) H.nx
 |.mapUpdate _ x _ _=>ltV (ev A.tm x) H.nx
 |.store _ a _=>ltV (ev A.tm a) H.nx
 |.call ⟨.builtin .len,⟨[x]⟩,_⟩=>ltV (ev A.tm x) H.nx
 |.call ⟨.builtin .append,⟨[s,x]⟩,_⟩=>ltV (ev A.tm s) H.nx∧ltV (ev A.tm x) H.nx
 |_=>True
def LTo.mem{o:Oper}{A:aa}{H:Hp}(h:LTo o A H){x:Operand}(hx:x∈dw o){id:Nat}(hid:id∈(ev A.tm x).ids):id<H.nx:=by
 obtain⟨dst,op,type,pos,after,guard⟩:=o
 unfold dw at hx;split at hx
 ·rename_i hh;cases hh;simp at hx;subst hx;exact h id hid
 ·rename_i hh;cases hh;simp at hx;subst hx;exact h id hid
 ·rename_i hh;cases hh;simp at hx;subst hx;exact h id hid
 ·rename_i hh;cases hh;simp at hx;subst hx;exact h id hid
 ·rename_i hh;cases hh;simp at hx;subst hx;exact h id hid
 ·rename_i hh;cases hh;simp at hx
  rcases hx with rfl|rfl
  ·exact h.1 id hid
  exact h.2 id hid
 cases hx
def CS(st:Bool)(E:Env)(H:Hp)(n:ab)(next:AV->Hp->Prop):Prop:=
 ∀lg,N1 E ⟨H.t,H.nx,lg⟩ n λv h'=>(st=true->Gr ⟨H.t,H.nx,lg⟩ h')∧∀lg',(∀X,Fr X ⟨H.t,H.nx,lg⟩ h'->Fr X H ⟨h'.t,h'.nx,lg'⟩)->next v ⟨h'.t,h'.nx,lg'⟩
def CS.cn{st:Bool}{E:Env}{H:Hp}{n:ab}{next:AV->Hp->Prop}(h:CS st E H n next):CN E H n next:=λlg=>(h lg).mono λ_ _ h=>h.2
def WE(st:Bool)(E:Env)(A:aa)(d:Option Tmp)(next:aa->Hp->Prop)(H:Hp)(n:ab):Prop:=
 match n with
 |.enter f args=>CS st E H (.enter f args) λv H'=>next (bI A d v) H'
 |.round id args=>CS st E H (.round id args) λv H'=>next (bI A d v) H'
 |_=>False
def IsEn:ab->Prop
 |.enter _ _=>True
 |.round _ _=>True
 |_=>False
def SK(st:Bool)(E:Env)(o:Oper)(A:aa)(H:Hp)(next:aa->Hp->Prop):Prop:=
 match o.op with
 |.call ⟨.value _,_,_⟩=>WE st E A o.dst next H ((aI E.P o).run A.tm H)
 |_=>LTo o A H∧dE (λv H'=>next (bI A o.dst v) H') ((aI E.P o).run A.tm H)
def SU(st:Bool)(E:Env)(o:Oper)(A:aa)(H:Hp)(next:aa->Hp->Prop)(g:GW):Prop:=
 match g with
 |.yes=>SK st E o A H next
 |.no=>next (bI A o.dst aD) H
 |.lost=>False
def SO(st:Bool)(E:Env)(ops:List Oper)(Q:aa->Hp->Prop):List Oper->aa->Hp->Prop
 |[],A,H=>Q A H
 |o::l,A,H=>aK o.dst A.nt=true∧SU st E o A H (SO st E ops Q l) (gw (gOf ops o.guard) A.tm)
def du(before:List Nat)(did:List Did):Prop:=∀u∈did,∃k,before[u.idx]?=some k∧k≠0∧(k=2->u.wr=[]∧u.c0=u.c1)
def du.more{before:List Nat}{did:List Did}(h:du before did)(k:Nat):du (before++[k]) did:=λu hu=>by
 obtain⟨k',h1,h2⟩:=h u hu
 refine⟨k',?_,h2⟩
 have C0:u.idx<before.length:=by
  rcases Nat.lt_or_ge u.idx before.length with h|h
  ·exact h
  rw[List.getElem?_eq_none h]at h1;cases h1
 rw[List.getElem?_append_left C0];exact h1
def du.cons{before:List Nat}{did:List Did}(h:du before did){k:Nat}{u:Did}(hi:u.idx=before.length)(hk:k≠0)(h2:k=2->u.wr=[]∧u.c0=u.c1):du (before++[k]) (u::did):=λv hv=>by
 rcases List.mem_cons.1 hv with rfl|hv
 ·exact⟨k,by rw[hi];simp,hk,h2⟩
 exact h.more k v hv
def du.pair{before:List Nat}{did:List Did}(h:du before did){k m:Nat}(hs:bN k m 0 before=true){u:Did}(hu:u∈aL m did):∃ku,ku≠0∧(ku=2->u.wr=[]∧u.c0=u.c1)∧JR k ku=true:=by
 obtain⟨h1,h2⟩:=cm.1 hu
 obtain⟨ku,h3,h4,h5⟩:=h u h1
 refine⟨ku,h4,h5,?_⟩
 rcases sP hs u.idx ku h3 with h|h
 ·rw[Nat.zero_add,h2]at h;cases h
 exact h
def du.none{before:List Nat}{did:List Did}(h:du before did){m:Nat}(hs:bN 3 m 0 before=true):aL m did=[]:=by
 rw[List.eq_nil_iff_forall_not_mem];intro u hu;obtain⟨ku,h1,_,h2⟩:=h.pair hs hu
 exact h1 (zA3 h2)
def du.look{before:List Nat}{did:List Did}(h:du before did){m:Nat}(hs:bN 2 m 0 before=true):∀u∈aL m did,∀i,bO u i=false:=by
 intro u hu i;obtain⟨ku,h1,h3,h2⟩:=h.pair hs hu
 have F8:(Nat.beq ku 0||Nat.beq ku 2)=true:=h2;rw[Bool.or_eq_true]at F8;rcases F8 with h|h
 ·exact absurd (zA3 h) h1
 obtain⟨a,b⟩:=h3 (zA3 h)
 unfold bO;rw[a,b];show(false||_)=false
 rw[Bool.false_or,Bool.and_eq_false_iff];rcases Nat.lt_or_ge i u.c1 with h|h
 ·left;cases hb:Nat.ble u.c1 i with
  |false=>rfl
  |true=>have:=zA4 hb;omega
 right;cases hb:Nat.blt i u.c1 with
 |false=>rfl
 |true=>have:i<u.c1:=zA4 hb;omega
def du.Xg{before:List Nat}{did:List Did}(h:du before did){m:Nat}(hs:bN 6 m 0 before=true):∀u∈aL m did,∀i,bO u i=false:=by
 refine h.look (m:=m) ?_;have key:∀(l:List Nat)(i:Nat),bN 6 m i l=true->bN 2 m i l=true:=by
  intro l;induction l with
  |nil=>intro i _;rfl
  |cons x l ih=>
   intro i h;unfold bN at h ⊢;rw[Bool.and_eq_true]at h ⊢;exact⟨h.1,ih _ h.2⟩
 exact key _ _ hs
def mf{o:Oper}{k:Nat}(hk:opK o=k)(h4:k<4):bm o=if k<2 then 0 else if cI o=true then 2 else 1:=by
 obtain⟨dst,op,type,pos,after,guard⟩:=o
 cases op with
 |call c=>
  obtain⟨ce,as,ts⟩:=c
  unfold opK at hk;split at hk<;>first|(subst hk;rename_i h;cases h;rfl)|(subst hk;exact absurd h4 (by decide))|(rename_i h;cases h)
 |_=>first|(subst hk;rfl)|(subst hk;exact absurd (show(4:Nat)<4 from h4) (by decide))
def Bj{o:Oper}(hk:opK o=3)(hc:cI o=true):∃d f as ts ty pos af g,o=⟨d,.call ⟨.value f,as,ts⟩,ty,pos,af,g⟩:=by
 obtain⟨dst,op,type,pos,after,guard⟩:=o
 cases op with
 |call c=>
  obtain⟨ce,as,ts⟩:=c
  cases ce with
  |value f=>exact⟨_,_,_,_,_,_,_,_,rfl⟩
  |invoke _ _=>cases hc
  |builtin _=>cases hc
 |_=>cases hc
def Rq{P:Program}{o:Oper}(hk:opK o=3)(hc:cI o=false):WY P o:=by
 obtain⟨dst,op,type,pos,after,guard⟩:=o
 cases op with
 |store t a x=>exact OG
 |mapUpdate t m k x=>exact Jx
 |call c=>
  obtain⟨ce,as,ts⟩:=c
  unfold opK at hk;split at hk<;>first|exact absurd hk (by decide)|skip
  ·rename_i h;cases h
  ·rename_i h;cases h
  ·rename_i h;cases h;cases hc
  rename_i h;cases h;exact Jr
 |_=>cases hk
def Hp.ext'{H H':Hp}(h1:H.t=H'.t)(h2:H.nx=H'.nx)(h3:H.log=H'.log):H=H':=by
 cases H;cases H';cases h1;cases h2;cases h3;rfl
section
variable{st:Bool}{E:Env}{A:aa}{H:Hp}{Q:aa->Hp->Prop}{g:Option (Option Tmp×Bool)}{l:List OF}{j m:Nat}{ms:List Nat}{did:List Did}{before:List Nat}
theorem WE.inv{d:Option Tmp}{next:aa->Hp->Prop}{n:ab}(h:WE st E A d next H n):IsEn n∧CS st E H n λv H'=>next (bI A d v) H':=by
 cases n with
 |enter f as=>exact⟨trivial,h⟩
 |val v H'=>exact h.elim
 |om l=>exact h.elim
 |round id args=>exact⟨trivial,h⟩
 |bad s=>exact h.elim
theorem dE.inv{P:AV->Hp->Prop}{n:ab}(h:dE P n):∃v H',n=.val v H'∧P v H':=by
 cases n with
 |val v H'=>exact⟨v,H',rfl,h⟩
 |enter f as=>exact h.elim
 |om l=>exact h.elim
 |round id args=>exact h.elim
 |bad s=>exact h.elim
theorem SK.val{o:Oper}{next:aa->Hp->Prop}(hc:cI o=false)(h:SK st E o A H next):LTo o A H∧∃v H',(aI E.P o).run A.tm H=.val v H'∧next (bI A o.dst v) H':=by
 obtain⟨dst,op,type,pos,after,guard⟩:=o
 have key:LTo ⟨dst,op,type,pos,after,guard⟩ A H∧dE (λv H'=>next (bI A dst v) H') ((aI E.P ⟨dst,op,type,pos,after,guard⟩).run A.tm H):=by
  cases op with
  |call c=>
   obtain⟨ce,as,ts⟩:=c
   cases ce with
   |value f=>cases hc
   |invoke _ _=>exact h
   |builtin _=>exact h
  |_=>exact h
 exact⟨key.1,key.2.inv⟩
theorem BP{o:Oper}(hk:bm o=1)(hl:LTo o A H){us:List Did}(hu:∀u∈us,∀i,bO u i=false):Agr o A.tm H ⟨aO H.t H.nx A.tm o us,H.nx,[]⟩:=
 ⟨rfl,λx hx id hid=>Gb hk (uC hx) hid (hl.mem hx hid) λu hm=>hu u hm id⟩
theorem SK.d1{o:Oper}(hj:before.length=j)(U1:du before did)(h4:opK o<4)(hs:bN (plK st o) m 0 before=true)(hg:∀y n:R (aa×Hp),bB A.tm g y n=y)(hd:aK o.dst A.nt=true)
  (h:SK st E o A H λA H=>∀did',du (before++[opK o]) did'->D1 E l (j+1) ms did' A H Q):D1 E (⟨g,o.dst,aI E.P o,o⟩::l) j (m::ms) did A H Q:=by
 have G7:cI o=false->plK st o=opK o:=λh=>by unfold plK;rw[h,Bool.and_false];rfl
 cases S0:cI o with
 |true=>
  have hk:opK o=3:=by
   obtain⟨dst,op,type,pos,after,guard⟩:=o
   cases op with
   |call c=>
    obtain⟨ce,as,ts⟩:=c
    cases ce with
    |value f=>rfl
    |invoke _ _=>cases S0
    |builtin _=>cases S0
   |_=>cases S0
  obtain⟨d,f,as,ts,ty,pos,af,gd,rfl⟩:=Bj hk S0
  have hlk2:bm ⟨d,.call ⟨.value f,as,ts⟩,ty,pos,af,gd⟩=2:=rfl;have hwe:WE st E A d (λA H=>∀did',du (before++[3]) did'->D1 E l (j+1) ms did' A H Q) H ((aI E.P ⟨d,.call ⟨.value f,as,ts⟩,ty,pos,af,gd⟩).run A.tm H):=h;obtain⟨_,hcn⟩:=WE.inv hwe
  have hids:(aL m did).flatMap eb=[]:=by
   rw[List.eq_nil_iff_forall_not_mem];intro i hi;obtain⟨u,hu,hiu⟩:=List.mem_flatMap.1 hi
   cases st with
   |false=>
    have z9:bN 3 m 0 before=true:=hs;rw[U1.none z9]at hu;cases hu
   |true=>
    have z9:bN 6 m 0 before=true:=hs;rw[sM,U1.Xg z9 u hu i]at hiu;cases hiu
  have hfree:∀{h':Hp},(st=true->Gr ⟨H.t,H.nx,[]⟩ h')->eC (aL m did) (db H.t H.nx h'.log)=true:=λ{h'}hg=>by
   cases st with
   |false=>
    have z9:bN 3 m 0 before=true:=hs;rw[U1.none z9];rfl
   |true=>
    have i':db H.t H.nx h'.log=[]:=by
     obtain⟨lg,e,hl⟩:=(hg rfl).log
     rw[List.eq_nil_iff_forall_not_mem];intro i hi;obtain⟨a1,a2,_⟩:=iI.1 hi
     rw[e,List.append_nil]at a1;rcases hl i a1 with h|h
     ·have h':H.nx≤i:=h;omega
     exact h
    rw[i'];exact dC _
  have U0:aO H.t H.nx A.tm ⟨d,.call ⟨.value f,as,ts⟩,ty,pos,af,gd⟩ (aL m did)=H.t:=by
   unfold aO;rw[hlk2];show lR H.t ((aL m did).flatMap eb)=H.t;rw[hids];rfl
  refine D1.cons hg hd U0 ?_;have D9:(aI E.P ⟨d,.call ⟨.value f,as,ts⟩,ty,pos,af,gd⟩).run A.tm ⟨H.t,H.nx,[]⟩=(aI E.P ⟨d,.call ⟨.value f,as,ts⟩,ty,pos,af,gd⟩).run A.tm H:=rfl;rw[D9];refine(hcn []).mono λv h'⟨B1,Y0⟩=>⟨hfree B1,?_⟩
  rw[hlk2];have e1:cM 2 H h' (aL m did) (db H.t H.nx h'.log)=h'.t:=by
   show bP h'.t H.t ((aL m did).flatMap eb)=h'.t;rw[hids];rfl
  rw[e1];refine Y0 (db H.t H.nx h'.log++H.log) (λX hf=>⟨hf.nx,hf.get,db H.t H.nx h'.log,rfl,λi hi=>?_⟩) _ ?_
  ·obtain⟨a1,a2,_⟩:=iI.1 hi
   obtain⟨lg,e,hl⟩:=hf.log
   rw[e,List.append_nil]at a1;exact hl i a1
  have e2:note 2 j H.t H h' did (db H.t H.nx h'.log)=⟨j,H.t,H.nx,h'.nx,db H.t H.nx h'.log⟩::did:=rfl;rw[e2];exact U1.cons hj.symm (by decide) (λh=>by cases h)
 |false=>
  rw[G7 S0]at hs;generalize hk:opK o=k at h4 hs h;have I3:=mf hk h4;obtain⟨hl,v,H',hn,Y0⟩:=SK.val S0 h
  rw[S0]at I3;match k,hk,h4,hs,I3 with
  |0,hk,_,hs,I3=>
   rcases Nc hk (P:=E.P) (tm:=A.tm)with⟨v',hp⟩|hp
   ·have e:=(hp H).symm.trans hn;injection e with e1 e2
    subst e1 e2;exact D1.pure hg hd I3 (hp _) (Y0 _ (U1.more 0))
   exact absurd hn (hp _ _ _)
  |1,hk,_,hs,I3=>
   obtain⟨x,e1,e2⟩:=LP hk (P:=E.P) (tm:=A.tm) _ _ _ hn
   subst e1;refine D1.make hg hd I3 (e2 ⟨.leaf,H.nx,[]⟩ rfl) (Y0 _ (U1.cons hj.symm (by decide) (λh=>by cases h)))
  |2,hk,_,hs,I3=>
   obtain⟨e1,e2⟩:=Am hk (P:=E.P) _ _ _ _ hn
   subst e1;have hu:=U1.look hs;exact D1.look hg hd I3 (e2 _ (BP I3 hl hu)) λsub _=>Y0 _ (U1.cons hj.symm (by decide) (λ_=>⟨rfl,rfl⟩))
  |3,hk,_,hs,I3=>
   have hu:=U1.none hs;have S2:=BP (us:=aL m did) I3 hl (by rw[hu];intro u h;cases h);generalize U0:aO H.t H.nx A.tm o (aL m did)=sub at S2;refine D1.cons hg hd U0 ?_;have hdo:∀u:Did,u.idx=j->du (before++[3]) (u::did):=λu R5=>U1.cons (R5.trans hj.symm) (by decide) (λh=>by cases h);rcases Rq hk S0 (P:=E.P) _ _ _ _ hn with⟨e1,e2⟩|⟨x,e1,e2⟩|⟨id,x,k,e1,ek,⟨y,hy,hyid⟩,e2⟩
   ·rw[e2 _ S2,hu];subst e1;refine N1.val ⟨rfl,?_⟩;rw[I3];have e3:cM 1 H' ⟨sub,H'.nx,[]⟩ [] []=H'.t:=by
     show bP H'.t sub (cd H'.nx (H'.nx-H'.nx))=H'.t;rw[Nat.sub_self];rfl
    show D1 E l (j+1) ms _ (bI A o.dst v) ⟨cM 1 H' ⟨sub,H'.nx,[]⟩ [] [],H'.nx,[]++H'.log⟩ Q;rw[e3];exact Y0 _ (hdo _ rfl)
   ·rw[e2 _ S2,hu];subst e1;refine N1.val ⟨rfl,?_⟩;rw[I3];have e3:cM 1 H (Hp.new ⟨sub,H.nx,[]⟩ x) [] []=H.t.set H.nx x:=by
     show bP H.t (sub.set H.nx x) (cd H.nx (H.nx+1-H.nx))=_;have:H.nx+1-H.nx=1:=by omega
     rw[this];show PT.put ((sub.set H.nx x).get H.nx) H.t H.nx=_;rw[PT.dv,zB0 rfl];rfl
    show D1 E l (j+1) ms _ (bI A o.dst v) ⟨cM 1 H (Hp.new ⟨sub,H.nx,[]⟩ x) [] [],H.nx+1,[]++H.log⟩ Q;rw[e3];exact Y0 _ (hdo _ rfl)
   rw[e2 _ S2,hu];subst e1;have hid:id<H.nx:=hl.mem hy hyid;have i':db sub H.nx [id]=[id]:=by
    show Eng.ifE (Nat.blt id H.nx) (aw (sub.get id) (db sub H.nx []) λ_=>id::db sub H.nx []) (db sub H.nx [])=_;have f1:Nat.blt id H.nx=true:=zA5 hid;have f2:sub.get id=some k:=(S2.2 y hy id hyid).trans ek;rw[f1,f2];rfl
   refine N1.val ⟨rfl,?_⟩;rw[I3];have e3:cM 1 H (Hp.mod ⟨sub,H.nx,[]⟩ id x) [] [id]=H.t.set id x:=by
    show bP H.t (sub.set id x) ([id]++cd H.nx (H.nx-H.nx))=_;rw[Nat.sub_self];show PT.put ((sub.set id x).get id) H.t id=_;rw[PT.dv,zB0 rfl];rfl
   show D1 E l (j+1) ms _ (bI A o.dst v) ⟨cM 1 H (Hp.mod ⟨sub,H.nx,[]⟩ id x) [] (db sub H.nx [id]),H.nx,db sub H.nx [id]++H.log⟩ Q;rw[i',e3];exact Y0 _ (hdo _ rfl)
  |k+4,_,h4,_,_=>omega
end
def SK.mono{st:Bool}{E:Env}{o:Oper}{A:aa}{H:Hp}{next next':aa->Hp->Prop}(h:SK st E o A H next)(hn:∀A H,next A H->next' A H):SK st E o A H next':=by
 cases hc:cI o with
 |false=>
  obtain⟨hl,v,H',h1,h2⟩:=SK.val hc h
  obtain⟨dst,op,type,pos,after,guard⟩:=o
  have key:LTo ⟨dst,op,type,pos,after,guard⟩ A H∧dE (λv H'=>next' (bI A dst v) H') ((aI E.P ⟨dst,op,type,pos,after,guard⟩).run A.tm H):=⟨hl,by rw[h1];exact hn _ _ h2⟩;cases op with
  |call c=>
   obtain⟨ce,as,ts⟩:=c
   cases ce with
   |value f=>cases hc
   |invoke _ _=>exact key
   |builtin _=>exact key
  |_=>exact key
 |true=>
  obtain⟨dst,op,type,pos,after,guard⟩:=o
  cases op with
  |call c=>
   obtain⟨ce,as,ts⟩:=c
   cases ce with
   |value f=>
    obtain⟨h1,h2⟩:=WE.inv h
    show WE st E A dst next' H _;generalize(aI E.P ⟨dst,.call ⟨.value f,as,ts⟩,type,pos,after,guard⟩).run A.tm H=n at h1 h2
    cases n with
    |enter fn args=>exactλlg=>(h2 lg).mono λv h' q=>⟨q.1,λlg' hx=>hn _ _ (q.2 lg' hx)⟩
    |round id args=>exactλlg=>(h2 lg).mono λv h' q=>⟨q.1,λlg' hx=>hn _ _ (q.2 lg' hx)⟩
    |_=>exact h1.elim
   |invoke _ _=>cases hc
   |builtin _=>cases hc
  |_=>cases hc
def SO.d1{st:Bool}{E:Env}{ops:List Oper}{Q:aa->Hp->Prop}:∀{l:List Oper}{j:Nat}{ms:List Nat}{before:List Nat}{did:List Did}{A:aa}{H:Hp},before.length=j->du before did->BM st before l ms=true->SO st E ops Q l A H->D1 E (fH E.P ops l) j ms did A H Q
 |[],j,ms,_,_,A,H,_,_,_,h=>D1.nil h
 |o::l,j,[],_,_,A,H,_,_,hs,_=>by cases hs
 |o::l,j,m::ms,before,did,A,H,hj,U1,hs,h=>by
  unfold BM at hs;rw[Bool.and_eq_true,Bool.and_eq_true]at hs;obtain⟨⟨h4,J5⟩,L3⟩:=hs
  have Q_:opK o<4:=zA4 h4;obtain⟨hd,hg⟩:=h
  have R5:(before++[opK o]).length=j+1:=by simp[hj]
  rcases nf (gOf ops o.guard) A.tm with⟨h1,h2⟩|⟨h1,h2⟩|h1
  ·rw[h1]at hg;exact SK.d1 hj U1 Q_ J5 h2 hd (SK.mono hg λA' H' hn did' L9=>SO.d1 R5 L9 L3 hn)
  ·rw[h1]at hg;exact D1.skip h2 hd (SO.d1 R5 (U1.more _) L3 hg)
  rw[h1]at hg;exact hg.elim
def R1.sq{st:Bool}{E:Env}{r:Option Nat}{A:aa}{H:Hp}{Q:ak->aa->Hp->Prop}{id:Nat}{ops:Array Oper}(hs:mC st ops=true)(h:SO st E ops.toList (λA H=>Q .normal A H) ops.toList A H):R1 E r (.region id ops true) A H Q:=by
 unfold mC at hs;rw[Bool.and_eq_true]at hs;exact R1.draw hs.1 (SO.d1 rfl (λu hu=>by cases hu) hs.2 h)
def SO.wo{st:Bool}{E:Env}{ops:List Oper}{Q:aa->Hp->Prop}:∀{l:List Oper}{A:aa}{H:Hp},SO st E ops Q l A H->WO E ops Q l A H
 |[],A,H,h=>h
 |o::l,A,H,⟨hd,hg⟩=>by
  refine⟨hd,?_⟩
  rcases nf (gOf ops o.guard) A.tm with⟨h1,_⟩|⟨h1,_⟩|h1
  ·rw[h1]at hg ⊢;have Y1:SK st E o A H (WO E ops Q l):=SK.mono hg λA' H' hn=>SO.wo hn;show WT E A o.dst (WO E ops Q l) H ((aI E.P o).run A.tm H);cases hc:cI o with
   |false=>
    obtain⟨_,v,H',h3,h4⟩:=SK.val hc Y1
    rw[h3];exact h4
   |true=>
    obtain⟨dst,op,type,pos,after,guard⟩:=o
    cases op with
    |call c=>
     obtain⟨ce,as,ts⟩:=c
     cases ce with
     |value f=>
      obtain⟨h3,h4⟩:=WE.inv Y1
      generalize(aI E.P ⟨dst,.call ⟨.value f,as,ts⟩,type,pos,after,guard⟩).run A.tm H=n at h3 h4 ⊢
      cases n with
      |enter fn args=>exact CS.cn h4
      |round id args=>exact CS.cn h4
      |_=>exact h3.elim
     |invoke _ _=>cases hc
     |builtin _=>cases hc
    |_=>cases hc
  ·rw[h1]at hg ⊢;exact SO.wo hg
  rw[h1]at hg;exact hg.elim
def SG(st:Bool)(E:Env)(Q:aa->Hp->Prop):List (Option (Option Tmp×Bool))->List Oper->aa->Hp->Prop
 |_,[],A,H=>Q A H
 |[],_::_,_,_=>False
 |g::gs,o::l,A,H=>aK o.dst A.nt=true∧SU st E o A H (SG st E Q gs l) (gw g A.tm)
def SU.mono{st:Bool}{E:Env}{o:Oper}{A:aa}{H:Hp}{next next':aa->Hp->Prop}{g:GW}(h:SU st E o A H next g)(hn:∀A H,next A H->next' A H):SU st E o A H next' g:=by
 cases g with
 |yes=>exact SK.mono h hn
 |no=>exact hn _ _ h
 |lost=>exact h.elim
def SG.so{st:Bool}{E:Env}{ops:List Oper}{Q:aa->Hp->Prop}:∀{l:List Oper}{A:aa}{H:Hp},SG st E Q (l.map λo=>gOf ops o.guard) l A H->SO st E ops Q l A H
 |[],_,_,h=>h
 |_::_,_,_,⟨h1,h2⟩=>⟨h1,SU.mono h2 λ_ _ h=>SG.so h⟩
def pb(v:AV)(f:Bool->Prop):Prop:=match v with|.one (.b b)=>f b|_=>False
def EE{b:Bool}{f:Bool->Prop}:pb (.one (.b b)) f=f b:=rfl
section
variable{E:Env}{r:Option Nat}{A:aa}{H:Hp}{Q:ak->aa->Hp->Prop}{x y z:Code}
theorem R1.rR{id:Nat}{ops:Array Oper}(h:∀K:aa->Hp->Prop,(∀A H,R1 E r z A H Q->K A H)->SG false E K (ops.toList.map λo=>gOf ops.toList o.guard) ops.toList A H):R1 E r (.seq (.region id ops false) z) A H Q:=
 R1.seq (R1.reg (SO.wo (SG.so (h _ λ_ _ h=>h))))
theorem R1.FJ{id:Nat}{ops:Array Oper}(hs:mC false ops=true)(h:∀K:aa->Hp->Prop,(∀A H,R1 E r z A H Q->K A H)->SG false E K (ops.toList.map λo=>gOf ops.toList o.guard) ops.toList A H):R1 E r (.seq (.region id ops true) z) A H Q:=
 R1.seq (R1.sq hs (SG.so (h _ λ_ _ h=>h)))
theorem R1.ZE{id:Nat}{ops:Array Oper}(hs:mC true ops=true)(h:∀K:aa->Hp->Prop,(∀A H,R1 E r z A H Q->K A H)->SG true E K (ops.toList.map λo=>gOf ops.toList o.guard) ops.toList A H):R1 E r (.seq (.region id ops true) z) A H Q:=
 R1.seq (R1.sq hs (SG.so (h _ λ_ _ h=>h)))
theorem R1.e_sg{id:Nat}{ops:Array Oper}(hs:mC true ops=true)(h:∀K:aa->Hp->Prop,(∀A H,Q .normal A H->K A H)->SG true E K (ops.toList.map λo=>gOf ops.toList o.guard) ops.toList A H):R1 E r (.region id ops true) A H Q:=
 R1.sq hs (SG.so (h _ λ_ _ h=>h))
theorem R1.Ik{id:Nat}{ops:Array Oper}(h:∀K:aa->Hp->Prop,(∀A H,Q .normal A H->K A H)->SG false E K (ops.toList.map λo=>gOf ops.toList o.guard) ops.toList A H):R1 E r (.region id ops false) A H Q:=
 R1.reg (SO.wo (SG.so (h _ λ_ _ h=>h)))
theorem R1.Iq{id:Nat}{ops:Array Oper}(hs:mC false ops=true)(h:∀K:aa->Hp->Prop,(∀A H,Q .normal A H->K A H)->SG false E K (ops.toList.map λo=>gOf ops.toList o.guard) ops.toList A H):R1 E r (.region id ops true) A H Q:=
 R1.sq hs (SG.so (h _ λ_ _ h=>h))
theorem R1.Qv{c:Operand}{b:Bool}(hc:ev A.tm c=.one (.b b))(h1:b=true->R1 E r x A H Q)(h2:b=false->R1 E r y A H Q):R1 E r (.cond c x y) A H Q:=by
 refine R1.cond hc ?_;cases b with
 |true=>exact h1 rfl
 |false=>exact h2 rfl
theorem R1.Ac{c:Operand}(h:∀Kx Ky:Prop,(R1 E r (.seq x z) A H Q->Kx)->(R1 E r (.seq y z) A H Q->Ky)->pb (ev A.tm c) λb=>if b=true then Kx else Ky):R1 E r (.seq (.cond c x y) z) A H Q:=by
 have h:=h _ _ id id;unfold pb at h;split at h
 ·rename_i b hc
  cases b with
  |true=>exact R1.UN hc (λ_=>h) (λh=>by cases h)
  |false=>exact R1.UN hc (λh=>by cases h) (λ_=>h)
 exact h.elim
theorem R1.yY{c:Operand}(h:∀Kx Ky:Prop,(R1 E r x A H Q->Kx)->(R1 E r y A H Q->Ky)->pb (ev A.tm c) λb=>if b=true then Kx else Ky):R1 E r (.cond c x y) A H Q:=by
 have h:=h _ _ id id;unfold pb at h;split at h
 ·rename_i b hc
  cases b with
  |true=>exact R1.Qv hc (λ_=>h) (λh=>by cases h)
  |false=>exact R1.Qv hc (λh=>by cases h) (λ_=>h)
 exact h.elim
theorem iy{c:Prop}[Decidable c]{X Y:Prop}(h1:c->X)(h2:¬c->Y):if c then X else Y:=by
 by_cases h:c
 ·rw[zB0 h];exact h1 h
 rw[zB1 h];exact h2 h
theorem R1.jw(P:aa->Prop)(hp:P A)(h:∀A2,P A2->R1 E r x A2 H Q):R1 E r x A H Q:=h A hp
theorem R1.gen(P:aa->Hp->Prop)(hp:P A H)(h:∀A2 H2,P A2 H2->R1 E r x A2 H2 Q):R1 E r x A H Q:=h A H hp
end
section
variable{st:Bool}{E:Env}{Q:aa->Hp->Prop}{gs:List (Option (Option Tmp×Bool))}{l:List Oper}{o:Oper}{A:aa}{H:Hp}{next:aa->Hp->Prop}{g:Option (Option Tmp×Bool)}
theorem Tg:SG st E Q gs [] A H=Q A H:=by cases gs<;>rfl
theorem Mz:SG st E Q (g::gs) (o::l) A H=(aK o.dst A.nt=true∧SU st E o A H (SG st E Q gs l) (gw g A.tm)):=rfl
theorem Ra:SU st E o A H next .yes=SK st E o A H next:=rfl
theorem XA:SU st E o A H next .no=next (bI A o.dst aD) H:=rfl
theorem ZD{tm:PT AV}:gw none tm=.yes:=rfl
theorem XD{ops:List Oper}:gOf ops none=none:=rfl
def fU{α:Type}(o:Option α)(f:α->Prop):Prop:=match o with|some a=>f a|none=>False
theorem AA{α:Type}{a:α}{f:α->Prop}:fU (some a) f=f a:=rfl
def Xj(v:AV)(f:Bool->Prop):Prop:=match v with|.one (.b b)=>f b|_=>False
theorem KP{b:Bool}{f:Bool->Prop}:Xj (.one (.b b)) f=f b:=rfl
def vN(next:aa->Hp->Prop)(A:aa)(d:Option Tmp)(n:ab):Prop:=dE (λv H'=>next (bI A d v) H') n
theorem So{d:Option Tmp}{v:AV}{H':Hp}:vN next A d (.val v H')=next (bI A d v) H':=rfl
def ldN(next:aa->Hp->Prop)(A:aa)(d:Option Tmp)(H:Hp)(o:Option (Bool×Nat))(v:AV):Prop:=fU o λp=>vN next A d (cH H p.1 p.2 v)
theorem Hn{d:Option Tmp}{a:Bool}{n:Nat}{v:AV}:ldN next A d H (some (a,n)) v=vN next A d (cH H a n v):=rfl
def stN(next:aa->Hp->Prop)(A:aa)(d:Option Tmp)(H:Hp)(o:Option Nat)(a x:AV):Prop:=fU o λn=>vN next A d (im H n x a)
theorem DH{d:Option Tmp}{n:Nat}{a x:AV}:stN next A d H (some n) a x=vN next A d (im H n x a):=rfl
def faN(next:aa->Hp->Prop)(A:aa)(d:Option Tmp)(H:Hp)(o:Option (Nat×TypeId×Nat))(v:AV):Prop:=fU o λp=>vN next A d (fl H p.1 p.2.2 v)
theorem Fb{d:Option Tmp}{fo t n:Nat}{v:AV}:faN next A d H (some (fo,t,n)) v=vN next A d (fl H fo n v):=rfl
def iaN(next:aa->Hp->Prop)(A:aa)(d:Option Tmp)(H:Hp)(o:Option (TypeId×Nat))(x i:AV):Prop:=fU o λp=>vN next A d (cC H p.2 x i)
theorem DU{d:Option Tmp}{t n:Nat}{x i:AV}:iaN next A d H (some (t,n)) x i=vN next A d (cC H n x i):=rfl
def lnN(next:aa->Hp->Prop)(A:aa)(d:Option Tmp)(H:Hp)(o:Option Nat)(x:AV):Prop:=fU o λk=>vN next A d (cW H k x)
theorem Fw{d:Option Tmp}{k:Nat}{x:AV}:lnN next A d H (some k) x=vN next A d (cW H k x):=rfl
def pkN(next:aa->Hp->Prop)(A:aa)(d:Option Tmp)(H:Hp)(c x y:AV):Prop:=Xj c λb=>next (bI A d (if b=true then x else y)) H
theorem Xe{d:Option Tmp}{b:Bool}{x y:AV}:pkN next A d H (.one (.b b)) x y=next (bI A d (if b=true then x else y)) H:=rfl
def Qr(H:Hp)(o:Option (TypeId×Nat))(x:AV)(lo hi:Option AV)(alt:ab):ab:=match o with|some p=>cR H p.2 x lo hi alt|none=>alt
theorem tD{H:Hp}{t n:Nat}{x:AV}{lo hi:Option AV}{alt:ab}:Qr H (some (t,n)) x lo hi alt=cR H n x lo hi alt:=rfl
theorem CT{α:Type}{P:AV->Hp->Prop}{o:Option α}{s:String}{f:α->ab}:dE P (nd o s f)=fU o λa=>dE P (f a):=by cases o<;>rfl
theorem po{P:AV->Hp->Prop}{b:Bool}{s:String}{n:ab}:dE P (aA b s n)=(b=true∧dE P n):=by
 cases b
 ·exact propext ⟨λh=>h.elim,λh=>by cases h.1⟩
 exact propext ⟨λh=>⟨rfl,h⟩,λh=>h.2⟩
theorem bT{α:Type}{P:AV->Hp->Prop}{o:Option α}{s:String}{f:α->SF}{tm:PT AV}:dE P ((ndF o s f).run tm H)=fU o λa=>dE P ((f a).run tm H):=by cases o<;>rfl
theorem LS{id g' off lim n:Nat}:ltV (.one (.o (.ptr id g' off lim))) n=(id<n):=propext ⟨λh=>h id (List.mem_singleton.2 rfl),λh i hi=>by rw[List.mem_singleton.1 hi];exact h⟩
theorem CD{id g' off len sz n:Nat}:ltV (.one (.o (.sl id g' off len sz))) n=(id<n):=propext ⟨λh=>h id (List.mem_singleton.2 rfl),λh i hi=>by rw[List.mem_singleton.1 hi];exact h⟩
theorem tR{n:Nat}:ltV (.one (.o .nilS)) n=True:=propext ⟨λ_=>trivial,λ_ i hi=>by cases hi⟩
theorem KH{n:Nat}{s:List UInt8}:ltV (.one (.o (.str s))) n=True:=propext ⟨λ_=>trivial,λ_ i hi=>by cases hi⟩
theorem Xy{n:Nat}{k:IntKind}{i:Int}:ltV (.one (.i k i)) n=True:=propext ⟨λ_=>trivial,λ_ i hi=>by cases hi⟩
theorem qj{v:AC}{sz k:Nat}{c:List AC}(h:SlC H v sz k c):ltV (.one v) H.nx:=by
 rcases h.2 with⟨rfl,_⟩|⟨id,g,off,rfl,hid,_⟩
 ·rw[tR];trivial
 rw[CD];exact hid
variable{d:Option Tmp}{ty:TypeId}{pos:String}{af:Array Edge}{gd:Option (Nat×Bool)}
theorem kG{p:Prop}:(True∧p)=p:=propext ⟨λh=>h.2,λh=>⟨trivial,h⟩⟩
theorem CU{x:Operand}:SK st E ⟨d,.move x,ty,pos,af,gd⟩ A H next=next (bI A d (ev A.tm x)) H:=by cases x<;>exact kG
theorem sk{x:Operand}:SK st E ⟨d,.assign x,ty,pos,af,gd⟩ A H next=next (bI A d (ev A.tm x)) H:=by cases x<;>exact kG
theorem Kk{c x y:Operand}:SK st E ⟨d,.pick c x y,ty,pos,af,gd⟩ A H next=pkN next A d H (ev A.tm c) (ev A.tm x) (ev A.tm y):=by
 refine kG.trans ?_;show dE _ (dO (ev A.tm c) (.bad "pick") λb=>.val (ifE b (ev A.tm x) (ev A.tm y)) H)=_
 cases ev A.tm c with
 |one q=>cases q with
  |b b=>cases b<;>rfl
  |_=>rfl
 |_=>rfl
theorem Eg{e:TypeId}:SK st E ⟨d,.alloc e,ty,pos,af,gd⟩ A H next=fU ((ay E.P e).map λz=>(ofValue z).cells) λc=>next (bI A d (.one (.o (.ptr H.nx 0 0 c.length)))) (H.new (.arr c e 0 0)):=by
 refine kG.trans ?_;show dE _ ((ndF (ay E.P e) _ _).run A.tm H)=_;rw[bT];cases ay E.P e with
 |none=>rfl
 |some z=>
  show next (bI A d (.one (.o (.ptr H.nx 0 0 (bq (ofValue z).cells))))) _=_;rw[bj];rfl
theorem Up{e:TypeId}{x:Operand}:SK st E ⟨d,.box e x,ty,pos,af,gd⟩ A H next=((ev A.tm x).bz=true∧next (bI A d (.one (.o (.ptr H.nx 0 0 (ev A.tm x).cells.length)))) (H.new (.arr (ev A.tm x).cells e 0 0))):=by
 refine kG.trans ?_;show dE _ (aA (ev A.tm x).bz _ (jx H (ev A.tm x).cells e))=_;rw[po];unfold jx;rw[bj];rfl
theorem Nl{t:TypeId}{x:Operand}:SK st E ⟨d,.load t x,ty,pos,af,gd⟩ A H next=(ltV (ev A.tm x) H.nx∧ldN next A d H (loadT E.P t) (ev A.tm x)):=by
 show(_∧dE _ ((ndF (loadT E.P t) _ _).run A.tm H))=_
 rw[bT];rfl
theorem En{t:TypeId}{a x:Operand}:SK st E ⟨d,.store t a x,ty,pos,af,gd⟩ A H next=(ltV (ev A.tm a) H.nx∧stN next A d H (aT E.P t) (ev A.tm a) (ev A.tm x)):=by
 show(_∧dE _ ((ndF (aT E.P t) _ _).run A.tm H))=_
 rw[bT];rfl
theorem QD{op:BinOp}{t:TypeId}{x y:Operand}{c:TypeId}:SK st E ⟨d,.binOp op t x y c,ty,pos,af,gd⟩ A H next=vN next A d (bp H (aR E.P t) op (dX op) (ev A.tm x) (ev A.tm y) (aq E.P A.tm H ⟨d,.binOp op t x y c,ty,pos,af,gd⟩)):=kG
theorem Ri{t:TypeId}{x:Operand}:SK st E ⟨d,.unOp .not t x,ty,pos,af,gd⟩ A H next=vN next A d (dO (ev A.tm x) (aq E.P A.tm H ⟨d,.unOp .not t x,ty,pos,af,gd⟩) λb=>.val (.one (.b (!b))) H):=kG
theorem JL{a b:TypeId}{x:Operand}:SK st E ⟨d,.convert a b x,ty,pos,af,gd⟩ A H next=vN next A d (aq E.P A.tm H ⟨d,.convert a b x,ty,pos,af,gd⟩):=kG
theorem qP{s:TypeId}{x:Operand}{f:Nat}:SK st E ⟨d,.fieldAddr s x f,ty,pos,af,gd⟩ A H next=faN next A d H (aE E.P s f) (ev A.tm x):=by
 refine kG.trans ?_;show dE _ ((ndF (aE E.P s f) _ _).run A.tm H)=_;rw[bT];rfl
theorem Gs{s:TypeId}{x:Operand}{f:Nat}:SK st E ⟨d,.field s x f,ty,pos,af,gd⟩ A H next=fU (aE E.P s f) λp=>fU (ns E.P p.2.1) λa=>vN next A d (rJ H p.1 p.2.2 a (ev A.tm x)):=by
 refine kG.trans ?_;show dE _ ((ndF (aE E.P s f) _ _).run A.tm H)=_;rw[bT];cases aE E.P s f with
 |none=>rfl
 |some p=>
  show dE _ ((ndF (ns E.P p.2.1) _ _).run A.tm H)=_;rw[bT];rfl
theorem pt{t:TypeId}{x i:Operand}:SK st E ⟨d,.indexAddr t x i,ty,pos,af,gd⟩ A H next=iaN next A d H (bt E.P t) (ev A.tm x) (ev A.tm i):=by
 refine kG.trans ?_;show dE _ ((ndF (bt E.P t) _ _).run A.tm H)=_;rw[bT];rfl
theorem FM{t:TypeId}{x:Operand}{lo hi:Option Operand}:SK st E ⟨d,.slice t x lo hi none,ty,pos,af,gd⟩ A H next=vN next A d (Qr H (bt E.P t) (ev A.tm x) (lo.map (ev A.tm)) (hi.map (ev A.tm)) (aq E.P A.tm H ⟨d,.slice t x lo hi none,ty,pos,af,gd⟩)):=by
 refine kG.trans ?_;cases he:bt E.P t with
 |none=>
  have:aI E.P ⟨d,.slice t x lo hi none,ty,pos,af,gd⟩=.mk λtm h=>aq E.P tm h ⟨d,.slice t x lo hi none,ty,pos,af,gd⟩:=by simp[aI,he]
  rw[this];rfl
 |some p=>
  have:aI E.P ⟨d,.slice t x lo hi none,ty,pos,af,gd⟩=.mk λtm h=>cR h p.2 ((opF x).ev tm) (lo.map (ev tm)) (hi.map (ev tm)) (aq E.P tm h ⟨d,.slice t x lo hi none,ty,pos,af,gd⟩):=by simp[aI,he]
  rw[this];rfl
theorem uX{x:Operand}{i:Nat}:SK st E ⟨d,.extract x i,ty,pos,af,gd⟩ A H next=vN next A d (bV H (ev A.tm x) i):=kG
theorem tv{x:Operand}:SK st E ⟨d,.nilCheck x,ty,pos,af,gd⟩ A H next=vN next A d (ga H (ev A.tm x)):=kG
theorem tx{f:FuncId}{cs:Array Operand}:SK st E ⟨d,.makeFunc (.func f) #[] cs,ty,pos,af,gd⟩ A H next=fU (gY (evs cs.toList A.tm)) λc=>next (bI A d (.one (.o (.clo f c)))) H:=by
 refine kG.trans ?_;show dE _ (nd (gY (evs cs.toList A.tm)) _ _)=_;rw[CT];rfl
theorem vF{t:TypeId}:SK st E ⟨d,.makeMap t none,ty,pos,af,gd⟩ A H next=next (bI A d (.one (.o (.mp H.nx)))) (H.new (.oth (.map [] 0))):=kG
theorem rz{t:TypeId}{x c:Operand}:SK st E ⟨d,.makeSlice t x c,ty,pos,af,gd⟩ A H next=vN next A d (cL E.P H t (ev A.tm x) (ev A.tm c)):=kG
theorem EY{t:TypeId}{ps:Array (Nat×Operand)}:SK st E ⟨d,.build t ps,ty,pos,af,gd⟩ A H next=fU ((ay E.P t).map λz=>(ofValue z).cells) λz=>fU (cB E.P t) λpl=>fU (cY pl ps.toList) λq=>fU (hY A.tm q z) λc=>next (bI A d (.agg c)) H:=by
 refine kG.trans ?_;show dE _ ((ndF (ay E.P t) _ _).run A.tm H)=_;rw[bT];cases ay E.P t with
 |none=>rfl
 |some z=>
  show dE _ ((ndF (cB E.P t) _ _).run A.tm H)=_;rw[bT];cases cB E.P t with
  |none=>rfl
  |some pl=>
   show dE _ ((ndF (cY pl ps.toList) _ _).run A.tm H)=fU (cY pl ps.toList) _;rw[bT];cases cY pl ps.toList with
   |none=>rfl
   |some q=>
    show dE _ (nd (hY A.tm q (ofValue z).cells) _ _)=_;rw[CT];rfl
theorem oE{t:TypeId}{n:Nat}{ps:Array (Nat×Operand)}:SK st E ⟨d,.buildSlice t n ps,ty,pos,af,gd⟩ A H next=fU (bt E.P t) λes=>fU ((ay E.P es.1).map λz=>(ofValue z).cells) λz=>
  (n*es.2≤16777216∧z.length=es.2)∧fU (cY (λi=>some (i*es.2,es.2)) ps.toList) λq=>fU (hY A.tm q (jA z n)) λc=>next (bI A d (.one (.o (.sl H.nx 0 0 n es.2)))) (H.new (.arr c es.1 0 0)):=by
 refine kG.trans ?_;show dE _ ((ndF (bt E.P t) _ _).run A.tm H)=_;rw[bT];cases bt E.P t with
 |none=>rfl
 |some es=>
  show dE _ ((ndF (ay E.P es.1) _ _).run A.tm H)=_;rw[bT];show fU (ay E.P es.1) _=fU ((ay E.P es.1).map λz=>(ofValue z).cells) _;cases ay E.P es.1 with
  |none=>rfl
  |some z=>
   show dE _ ((Eng.ifE (both (Nat.ble (Nat.mul n es.2) 16777216) (Nat.beq (bq (ofValue z).cells) es.2)) _ _:SF).run A.tm H)=(_∧_);rw[cF,bj];have hbc:((Nat.ble (Nat.mul n es.2) 16777216&&Nat.beq (ofValue z).cells.length es.2)=true)↔(n*es.2≤16777216∧(ofValue z).cells.length=es.2):=by
    rw[Bool.and_eq_true,Nat.ble_eq,Nat.beq_eq];exact Iff.rfl
   cases hb:(Nat.ble (Nat.mul n es.2) 16777216&&Nat.beq (ofValue z).cells.length es.2)with
   |false=>exact propext ⟨λh=>h.elim,λh=>by have:=hbc.2 h.1;rw[hb]at this;cases this⟩
   |true=>
    refine Eq.trans ?_ (propext ⟨λh=>⟨hbc.1 hb,h⟩,λh=>h.2⟩);show dE _ ((ndF (cY (λi=>some (i*es.2,es.2)) ps.toList) _ _).run A.tm H)=_;rw[bT];cases cY (λi=>some (i*es.2,es.2)) ps.toList with
    |none=>rfl
    |some q=>
     show dE _ (nd (hY A.tm q (jA (ofValue z).cells n)) _ _)=_;rw[CT];rfl
theorem Ug{x:Operand}{t:TypeId}:SK st E ⟨d,.call ⟨.builtin .len,#[x],#[t]⟩,ty,pos,af,gd⟩ A H next=(ltV (ev A.tm x) H.nx∧lnN next A d H (eR E.P t) (ev A.tm x)):=by
 show(_∧dE _ ((ndF (eR E.P t) _ _).run A.tm H))=_
 rw[bT];rfl
theorem zr{s x:Operand}{t:TypeId}:SK st E ⟨d,.call ⟨.builtin .append,#[s,x],#[t,t]⟩,ty,pos,af,gd⟩ A H next=((ltV (ev A.tm s) H.nx∧ltV (ev A.tm x) H.nx)∧vN next A d (bh E.P H t (ev A.tm s) (ev A.tm x))):=by
 show(_∧dE _ ((Eng.ifE (Nat.beq t t) (.mk λtm h=>bh E.P h t (ev tm s) (ev tm x)) (ee "append - types"):SF).run A.tm H))=_
 rw[Nat.beq_refl];rfl
theorem Ny{f:Operand}{as:Array Operand}{ts:Array TypeId}:SK st E ⟨d,.call ⟨.value f,as,ts⟩,ty,pos,af,gd⟩ A H next=WE st E A d next H (mr E.P (ev A.tm f) (evs as.toList A.tm)):=rfl
theorem uR{P:Program}{f:FuncId}{caps:List (Nat×Nat×Nat×Nat)}{args:List AV}(h:ao P f=true):mr P (.one (.o (.clo f caps))) args=.enter f (args++eE caps):=by
 show aA (ao P f) _ _=_;rw[h];rfl
theorem wM:gY []=some []:=rfl
theorem tc{id g off lim:Nat}{l:List AV}:gY (.one (.o (.ptr id g off lim))::l)=(gY l).map λr=>(id,g,off,lim)::r:=by
 show(match gY l with|some r=>some ((id,g,off,lim)::r)|none=>none)=_
 cases gY l<;>rfl
theorem sX:eE []=[]:=rfl
theorem qy{id g off lim:Nat}{l:List (Nat×Nat×Nat×Nat)}:eE ((id,g,off,lim)::l)=.one (.o (.ptr id g off lim))::eE l:=rfl
theorem Bk{c:AC}:(AV.one c).cells=[c]:=congrArg (λn=>n) (rfl:[c]=[c])
theorem AF{c:List AC}:(AV.agg c).cells=c:=congrArg (λn=>n) (rfl:c=c)
theorem yz{c:AC}:(AV.one c).bz=true:=congrArg (λn=>n) (rfl:true=true)
theorem yK{c:List AC}:(AV.agg c).bz=true:=congrArg (λn=>n) (rfl:true=true)
theorem Zz{c:AC}{l:List (Bool×List AC)}:bV H (.tup ((false,[c])::l)) 0=.val (.one c) H:=rfl
theorem Xr{c:List AC}{l:List (Bool×List AC)}:bV H (.tup ((true,c)::l)) 0=.val (.agg c) H:=rfl
theorem ZF{c:AC}{x:Bool×List AC}{l:List (Bool×List AC)}:bV H (.tup (x::(false,[c])::l)) 1=.val (.one c) H:=rfl
theorem Xm{c:List AC}{x:Bool×List AC}{l:List (Bool×List AC)}:bV H (.tup (x::(true,c)::l)) 1=.val (.agg c) H:=rfl
theorem ZX{c:AC}{x y:Bool×List AC}{l:List (Bool×List AC)}:bV H (.tup (x::y::(false,[c])::l)) 2=.val (.one c) H:=rfl
theorem Xx{c:List AC}{x y:Bool×List AC}{l:List (Bool×List AC)}:bV H (.tup (x::y::(true,c)::l)) 2=.val (.agg c) H:=rfl
theorem Gx{s:List UInt8}:cW H 0 (.one (.o (.str s)))=.val (.one (.i .i64 (s.length:Int))) H:=by
 show ab.val (ON (OW s)) H=_;rw[Br];rfl
theorem uJ{pl:Nat->Option (Nat×Nat)}:cY pl []=some []:=rfl
theorem tn{pl:Nat->Option (Nat×Nat)}{i:Nat}{x:Operand}{l:List (Nat×Operand)}:cY pl ((i,x)::l)=(pl i).bind λp=>(cY pl l).map λr=>(p.1,p.2,opF x)::r:=by
 show(match pl i,cY pl l with|some p,some r=>some ((p.1,p.2,opF x)::r)|_,_=>none)=_
 cases pl i<;>cases cY pl l<;>rfl
theorem Ge{tm:PT AV}{c:List AC}:hY tm [] c=some c:=rfl
theorem AG{tm:PT AV}{o n:Nat}{f:OpF}{l:List (Nat×Nat×OpF)}{c:List AC}(h1:(f.ev tm).cells.length=n)(h2:o+n≤c.length)(h3:(f.ev tm).bz=true):hY tm ((o,n,f)::l) c=hY tm l (c.take o++((f.ev tm).cells++c.drop (o+n))):=by
 show Eng.ifE (both (Nat.beq (bq (f.ev tm).cells) n) (both (Nat.ble (Nat.add o n) (bq c)) (f.ev tm).bz)) (hY tm l (eQ c o (f.ev tm).cells)) none=_;have e2:Nat.ble (Nat.add o n) c.length=true:=zA5 h2;rw[bj,bj,h1,Nat.beq_refl,e2,h3,fm,h1];rfl
theorem vz{z:List AC}:jA z 1=z:=by
 show lL z []=z;induction z with
 |nil=>rfl
 |cons x z ih=>show x::lL z []=_;rw[ih]
theorem pX{id g off len sz i:Nat}{k:IntKind}{alt:ab}(h:i≤len):cR H sz (.one (.o (.sl id g off len sz))) (some (.one (.i k (i:Int)))) none alt=.val (.one (.o (.sl id g (off+i*sz) (len-i) sz))) H:=by
 show aA (both (Nat.beq sz sz) (both (Nat.ble i len) (Nat.ble len len))) _ _=_;rw[Nat.beq_refl,zA5 h,zA5 (zA1 len)];rfl
theorem qM{id g off len sz i:Nat}{k:IntKind}{alt:ab}(h:i≤len):cR H sz (.one (.o (.sl id g off len sz))) none (some (.one (.i k (i:Int)))) alt=.val (.one (.o (.sl id g off i sz))) H:=by
 show aA (both (Nat.beq sz sz) (both (Nat.ble 0 i) (Nat.ble i len))) _ _=_;rw[Nat.beq_refl,zA5 (Nat.zero_le i),zA5 h];show ab.val (.one (.o (.sl id g (off+0*sz) (i-0) sz))) H=_;rw[Nat.zero_mul,Nat.add_zero,Nat.sub_zero]
theorem sV{id g off len sz:Nat}(h:0<len):cC H sz (.one (.o (.sl id g off len sz))) (.one (.i .i64 0))=.val (.one (.o (.ptr id g off sz))) H:=by
 have:=jb (H:=H) (id:=id) (g:=g) (off:=off) (sz:=sz) (i:=0) h;rw[Nat.zero_mul,Nat.add_zero]at this;exact this
theorem KA{id g off len sz:Nat}{k:IntKind}{alt:ab}(h:1≤len):cR H sz (.one (.o (.sl id g off len sz))) (some (.one (.i k 1))) none alt=.val (.one (.o (.sl id g (off+1*sz) (len-1) sz))) H:=pX h
theorem UG{id g off n sz:Nat}:cW H 1 (.one (.o (.sl id g off n sz)))=.val (.one (.i .i64 (n:Int))) H:=rfl
theorem SW:cW H 1 (.one (.o .nilS))=.val (.one (.i .i64 0)) H:=rfl
end
section
variable{H:Hp}{o:aJ}{i k a b c:Nat}
theorem aB(h:i=H.nx):(H.new o).get i=some o:=by rw[Er,zB0 h]
theorem aS(h:i<H.nx):(H.new o).get i=H.get i:=by rw[Er,zB1 (by omega)]
theorem an(h:i=k):(H.mod k o).get i=some o:=by rw[GV,zB0 h]
theorem au(h:i≠k):(H.mod k o).get i=H.get i:=by rw[GV,zB1 h]
theorem zY(tm:PT AV)(t:Nat):ev tm (.tmp t)=slot tm t:=congrArg (λn=>n) (rfl:slot tm t=slot tm t)
theorem Xu(tm:PT AV)(x:Operand):(opF x).ev tm=ev tm x:=congrArg (λn=>n) (rfl:ev tm x=ev tm x)
theorem ZQ{n:Nat}:((0:Int)<((n+1:Nat):Int))=True:=eq_true (by omega)
theorem YU{n:Nat}:((((n+1:Nat):Int))==0)=false:=beq_eq_false_iff_ne.2 (by omega)
theorem Xi:(((0:Nat):Int))=0:=congrArg (λn=>n) (rfl:(0:Int)=0)
theorem ti:(H.new o).nx=H.nx+1:=congrArg (λn=>n) (rfl:H.nx+1=H.nx+1)
theorem Lc:(H.mod k o).nx=H.nx:=congrArg (λn=>n) (rfl:H.nx=H.nx)
theorem XG(h:a<b):(a<b+c)=True:=eq_true (by omega)
theorem RL(h:0<c):(a<a+c)=True:=eq_true (by omega)
theorem YY(h:a<b):(a=b)=False:=eq_false (by omega)
theorem Zl(h:b<a):(a=b)=False:=eq_false (by omega)
theorem XF(h:a<b):(a=b+c)=False:=eq_false (by omega)
theorem Xq(h:b<a):(a+c=b)=False:=eq_false (by omega)
theorem Lz(h:0<c):(a=a+c)=False:=eq_false (by omega)
theorem MC(h:0<c):(a+c=a)=False:=eq_false (by omega)
theorem YX(h:b≠c):(a+b=a+c)=False:=eq_false (by omega)
theorem Zy:(a+b<a+c)=(b<c):=propext (by omega)
end
def aP{n:Int}(h1:-9223372036854775808≤n)(h2:n≤9223372036854775807):IntKind.i64.wrap n=n:=by rw[IntKind.wrap_i64];omega
def Con(E:Env)(f:FuncId)(args:List AV)(H:Hp)(X:Nat->Prop)(Q:AV->Hp->Prop):Prop:=
 ∀lg,N1 E ⟨H.t,H.nx,lg⟩ (.enter f args) λv h'=>Fr X ⟨H.t,H.nx,lg⟩ h'∧∀lg',Q v ⟨h'.t,h'.nx,lg'⟩
section
variable{E:Env}{f:FuncId}{args:List AV}{H:Hp}{X:Nat->Prop}{Q:AV->Hp->Prop}
theorem Con.cn{next:AV->Hp->Prop}(h:Con E f args H X Q)(hn:∀v H',Fr X H H'->Q v H'->next v H'):CN E H (.enter f args) next:=λlg=>
 (h lg).mono λv h'⟨h1,h2⟩lg' hx=>hn _ _ (hx X h1) (h2 lg')
theorem WE.con{A:aa}{d:Option Tmp}{next:aa->Hp->Prop}(h:Con E f args H X Q)(hn:∀v H',Fr X H H'->Q v H'->next (bI A d v) H'):WE false E A d next H (.enter f args):=λlg=>
 (h lg).mono λ_ _⟨h1,h2⟩=>⟨λh=>(by cases h),λlg' hx=>hn _ _ (hx X h1) (h2 lg')⟩
theorem WE.xk{st:Bool}{A:aa}{d:Option Tmp}{next:aa->Hp->Prop}(h:Con E f args H (λ_=>False) Q)(hn:∀v H',Gr H H'->Q v H'->next (bI A d v) H'):WE st E A d next H (.enter f args):=λlg=>
 (h lg).mono λ_ _⟨h1,h2⟩=>⟨λ_=>h1,λlg' hx=>hn _ _ (hx _ h1) (h2 lg')⟩
theorem WE.dQ{st:Bool}{A:aa}{d:Option Tmp}{next:aa->Hp->Prop}{v:AV}(hp:E.dQ f args=some v)(hn:∀H',Gr H H'->H'.nx=H.nx->(∀i,H'.get i=H.get i)->next (bI A d v) H'):WE st E A d next H (.enter f args):=λlg=>
 N1.dQ hp ⟨λ_=>Fr.refl _,λlg' hx=>hn ⟨H.t,H.nx,lg'⟩ (hx _ (Fr.refl _)) rfl λ_=>rfl⟩
theorem Kg{st:Bool}{o:Oper}{A:aa}{next:aa->Hp->Prop}{c:Prop}[Decidable c](h1:c->SU st E o A H next .yes)(h2:¬c->SU st E o A H next .no):SU st E o A H next (if c then .yes else .no):=by
 by_cases h:c
 ·rw[zB0 h];exact h1 h
 rw[zB1 h];exact h2 h
theorem Con.of(hp:E.dQ f args=none)(h:∀lg,C1 E f args ⟨H.t,H.nx,lg⟩ λv h'=>Fr X ⟨H.t,H.nx,lg⟩ h'∧∀lg',Q v ⟨h'.t,h'.nx,lg'⟩)(hq:∀lg,E.dZ f args ⟨H.t,H.nx,lg⟩=none:=by intro _;rfl):Con E f args H X Q:=λlg=>N1.call hp (hq lg) (h lg)
theorem Con.dZ{v:AV}{id:Nat}{o:aJ}(hp:E.dQ f args=none)(hq:∀lg,E.dZ f args ⟨H.t,H.nx,lg⟩=some (v,id,o))(h:∀lg,Q v ⟨(H.mod id o).t,(H.mod id o).nx,lg⟩):Con E f args H (λk=>k=id) Q:=λlg=>
 N1.dZ hp (hq lg) ⟨(Fr.refl _).mod _ (.inr rfl),h⟩
theorem Con.dQ{v:AV}(hp:E.dQ f args=some v)(h:∀lg,Q v ⟨H.t,H.nx,lg⟩):Con E f args H X Q:=λlg=>N1.dQ hp ⟨Fr.refl _,h⟩
end
def aQ{α β:Type}{P:Program}(f:α->Sem β):∀x:Sem α,ax P (x.bind f)=(ax P x).bind λa=>ax P (f a)
 |.pure a=>rfl
 |.load _ _ _=>rfl
 |.store _ _ _ _=>rfl
 |.new _ _=>rfl
 |.shape _ _=>rfl
 |.freeze _ _ _=>rfl
 |.frozen _ _=>rfl
 |.getObj _ _=>rfl
 |.setObj _ _ _=>rfl
 |.choose _ _=>rfl
 |.sys _ _=>rfl
 |.program k=>aQ f (k P)
 |.mark _ k=>aQ f k
 |.halt _=>rfl
def bc{α β:Type}{P:Program}(f:α->Sem β)(x:Sem α):ax P (x >>= f)=(ax P x).bind λa=>ax P (f a):=aQ f x
def Pk{P:Program}{t:TypeId}{n:Nat}(h:ax P (underlying t)=some .string)(a b:ByteArray):ax P (Op.equalIn (n+1) t (.string a) (.string b))=some (a==b):=by
 unfold Op.equalIn;rw[bc,h];rfl
def eq_int{P:Program}{t:TypeId}{n:Nat}{k:IntKind}(h:ax P (underlying t)=some (.int k))(k':IntKind)(a b:Int):ax P (Op.equalIn (n+1) t (.int k' a) (.int k' b))=some (a==b):=by
 unfold Op.equalIn;rw[bc,h];show ax P (if k'=k' then pure (a==b)else _)=_;rw[zB0 rfl];rfl
def KT{P:Program}{t:TypeId}{n:Nat}(h:ax P (underlying t)=some .bool)(a b:Bool):ax P (Op.equalIn (n+1) t (.bool a) (.bool b))=some (a==b):=by
 unfold Op.equalIn;rw[bc,h];rfl
def tf{P:Program}(g:Field->Sem Bool):∀(fs:List Field)(bs:List Bool),(∀f∈fs,f.name ≠ "_")->fs.map (λf=>ax P (g f))=bs.map some ->
  ax P (forIn fs ((none,()):Option Bool×Unit) λf __s=>(if f.name ≠ "_" then(g f).bind λb=>if(!b)=true then pure (ForInStep.done (some false,()))else pure (ForInStep.yield (none,()))else pure (ForInStep.yield (none,())):Sem (ForInStep (Option Bool×Unit)))) =
   some (if bs.all id=true then(none,())else(some false,()))
 |[],[],_,_=>rfl
 |[],_::_,_,h=>by cases h
 |_::_,[],_,h=>by cases h
 |f::fs,b::bs,hn,h=>by
  simp only[List.map_cons,List.cons.injEq]at h;have ih:=tf g fs bs (λf hf=>hn f (List.mem_cons_of_mem _ hf)) h.2;rw[List.forIn_cons,bc,zB0 (hn f (List.mem_cons_self ..)),aQ,h.1];simp only[Option.bind_some];cases b with
  |false=>rfl
  |true=>
   show ax P _=_;refine ih.trans ?_;rfl
def Oo{P:Program}{t:TypeId}{n:Nat}{fs:Array Field}(h:ax P (underlying t)=some (.struct fs))(hs:P.stoodInHeld t=false) (hn:∀f∈fs.toList,f.name ≠ "_") (xs ys:Array Value) (bs:List Bool)
  (hf:fs.toList.map (λf=>ax P ((part f.type xs f.offset).bind λa=>(part f.type ys f.offset).bind λb=>Op.equalIn n f.type a b))=bs.map some):
  ax P (Op.equalIn (n+1) t (.agg xs) (.agg ys))=some (bs.all id):=by
 unfold Op.equalIn;rw[bc,h];simp only[Option.bind_some];rw[bc];have hp:ax P program=some P:=rfl;rw[hp];simp only[Option.bind_some,hs];rw[zB1 (by decide),bc];have key:=tf (P:=P) (λf=>(part f.type xs f.offset).bind λa=>(part f.type ys f.offset).bind λb=>Op.equalIn n f.type a b) fs.toList bs hn hf;have e:ax P (forIn fs ((none,()):Option Bool×Unit) λf __s=>(if f.name ≠ "_" then do
        let __do_lift <-part f.type xs f.offset
        let __do_lift_1 <-part f.type ys f.offset
        let __do_lift <-Op.equalIn n f.type __do_lift __do_lift_1
        if(!__do_lift)=true then pure (ForInStep.done (some false,()))
         else pure (ForInStep.yield (none,()))
       else pure (ForInStep.yield (none,())):Sem (ForInStep (Option Bool×Unit))))=some (if bs.all id=true then(none,())else(some false,())):=by
  rw[<-key,<-Array.forIn_toList];congr 2
  funext f s
  split
  ·show Sem.bind _ _=Sem.bind _ _;have asc:∀{α β γ:Type}(x:Sem α)(f:α->Sem β)(g:β->Sem γ),(x.bind f).bind g=x.bind λa=>(f a).bind g:=by
    intro α β γ x f g;induction x with
    |pure a=>rfl
    |load m a k ih=>simp only[Sem.bind,ih]
    |store m a v k ih=>simp only[Sem.bind,ih]
    |new o k ih=>simp only[Sem.bind,ih]
    |shape r k ih=>simp only[Sem.bind,ih]
    |freeze a n k ih=>simp only[Sem.bind,ih]
    |frozen a k ih=>simp only[Sem.bind,ih]
    |getObj r k ih=>simp only[Sem.bind,ih]
    |setObj r o k ih=>simp only[Sem.bind,ih]
    |choose q k ih=>simp only[Sem.bind,ih]
    |sys c k ih=>simp only[Sem.bind,ih]
    |program k ih=>simp only[Sem.bind,ih]
    |mark m k ih=>simp only[Sem.bind,ih]
    |halt h=>rfl
   rw[asc];congr 1
   funext a
   rw[asc];rfl
  rfl
 rw[e];cases hb:bs.all id<;>rfl
def bK{P:Program}{t:TypeId}{d:TypeDesc}(h:P.underlying t=some d):ax P (underlying t)=some d:=by
 show ax P (match P.underlying t with|some d=>pure d|none=>stuck "no such type")=_
 rw[h];rfl
inductive FK where
 |s
 |i
 |b
def jh(P:Program):Nat->List Field->Option (List FK)
 |_,[]=>some []
 |i,f::fs=>
  bif f.name == "_" || !(f.offset==i)then none else
  match P.underlying f.type with
  |some .string=>(jh P (i+1) fs).map (.s::·)
  |some (.int _)=>(jh P (i+1) fs).map (.i::·)
  |some .bool=>(jh P (i+1) fs).map (.b::·)
  |_=>none
def eqK(P:Program)(t:TypeId):Option (List FK):=
 match P.underlying t with
 |some (.struct fs)=>bif P.stoodInHeld t||P.eqGuardType P.depth t then none else jh P 0 fs.toList
 |_=>none
def dB:List FK->List AC->List AC->Option Bool
 |[],[],[]=>some true
 |.s::ks,.o (.str a)::l,.o (.str b)::l'=>(dB ks l l').map λr=>a==b&&r
 |.i::ks,.i k n::l,.i k' m::l'=>if k=k' then(dB ks l l').map λr=>n==m&&r else none
 |.b::ks,.b x::l,.b y::l'=>(dB ks l l').map λr=>x==y&&r
 |_,_,_=>none
def sn:dB [] [] []=some true:=rfl
def Dp{ks:List FK}{a b:List UInt8}{l l':List AC}:dB (.s::ks) (.o (.str a)::l) (.o (.str b)::l')=(dB ks l l').map λr=>a==b&&r:=rfl
def Dd{ks:List FK}{k:IntKind}{a b:Int}{l l':List AC}:dB (.i::ks) (.i k a::l) (.i k b::l')=(dB ks l l').map λr=>a==b&&r:=by
 show(if k=k then _ else _)=_
 rw[zB0 rfl]
def Cs{ks:List FK}{a b:Bool}{l l':List AC}:dB (.b::ks) (.b a::l) (.b b::l')=(dB ks l l').map λr=>a==b&&r:=rfl
def GA{P:Program}{t:TypeId}{d:TypeDesc}(h:P.underlying t=some d)(hd:∀fs,d≠.struct fs)(hd2:∀n e,d≠.array n e)(cs:Array Value)(off:Nat)(v:Value)(hv:cs[off]?=some v):ax P (part t cs off)=some v:=by
 unfold part;rw[bc];have:ax P (isAgg t)=some false:=by
  unfold isAgg;rw[bc,bK h];cases d<;>first|rfl|exact absurd rfl (hd _)|exact absurd rfl (hd2 _ _)
 rw[this];simp only[Option.bind_some,hv];rfl
def IA(a b:List UInt8):((⟨a.toArray⟩:ByteArray)==⟨b.toArray⟩)=(a==b):=by
 show(a.toArray==b.toArray)=_
 simp
def Gz{P:Program}{n:Nat}:∀(fs:List Field)(i:Nat)(ks:List FK)(l l':List AC)(r:Bool)(us us' vs vs':List Value),jh P i fs=some ks->dB ks l l'=some r->aW l=some vs->aW l'=some vs'->us.length=i->us'.length=i ->
  (∀f∈fs,f.name ≠ "_")∧∃bs:List Bool,fs.map (λf=>ax P ((part f.type (us++vs).toArray f.offset).bind λa=>(part f.type (us'++vs').toArray f.offset).bind λb=>Op.equalIn (n+1) f.type a b))=bs.map some∧bs.all id=r
 |[],i,ks,l,l',r,us,us',vs,vs',h,he,hv,Z3,_,_=>by
  cases h
  cases l<;>cases l'<;>first|(cases he;done)|(cases he;exact⟨λf hf=>(by cases hf),[],rfl,rfl⟩)
 |f::fs,i,ks,l,l',r,us,us',vs,vs',h,he,hv,Z3,hu,F_=>by
  unfold jh at h;cases hc:(f.name == "_" || !(f.offset==i))with
  |true=>rw[hc]at h;cases h
  |false=>
   rw[hc]at h;rw[Bool.or_eq_false_iff]at hc;have hname:f.name ≠ "_" := λe=>by rw[e]at hc;exact absurd hc.1 (by decide)
   have hoff:f.offset=i:=by simpa using hc.2
   simp only[cond_false]at h;have step:∀(d:TypeDesc)(v v':Value)(ws ws':List Value)(ks':List FK)(m m':List AC)(b r':Bool),P.underlying f.type=some d->(∀fs,d≠.struct fs)->(∀n e,d≠.array n e)->ax P (Op.equalIn (n+1) f.type v v')=some b->vs=v::ws->vs'=v'::ws' ->
     jh P (i+1) fs=some ks'->dB ks' m m'=some r'->aW m=some ws->aW m'=some ws'->(b&&r')=r ->
     (∀f'∈f::fs,f'.name ≠ "_")∧∃bs:List Bool,(f::fs).map (λf=>ax P ((part f.type (us++vs).toArray f.offset).bind λa=>(part f.type (us'++vs').toArray f.offset).bind λb=>Op.equalIn (n+1) f.type a b))=bs.map some∧bs.all id=r:=by
    intro d v v' ws ws' ks' m m' b r' hd h1 h2 hb e1 e2 hk hm hw Y3 hr;subst e1 e2;obtain⟨ih1,bs,ih2,ih3⟩:=Gz (P:=P) (n:=n) fs (i+1) ks' m m' r' (us++[v]) (us'++[v']) ws ws' hk hm hw Y3 (by simp[hu]) (by simp[F_])
    refine⟨λf' K8=>?_,b::bs,?_,?_⟩
    ·rcases List.mem_cons.1 K8 with rfl|K8
     ·exact hname
     exact ih1 f' K8
    ·rw[List.map_cons,List.map_cons,aQ,GA hd h1 h2 _ _ v (by rw[hoff];simp[<-hu])];simp only[Option.bind_some];rw[aQ,GA hd h1 h2 _ _ v' (by rw[hoff];simp[<-F_])];simp only[Option.bind_some];rw[hb];have:us++[v]++ws=us++v::ws:=by simp
     rw[this]at ih2;have:us'++[v']++ws'=us'++v'::ws':=by simp
     rw[this]at ih2;rw[ih2]
    rw[List.all_cons,ih3];exact hr
   have cons1:∀{c:AC}{m:List AC}{v:Value},c.val?=some v->aW (c::m)=some vs->∃ws,vs=v::ws∧aW m=some ws:=by
    intro c m v h1 h2;unfold aW at h2;rw[h1]at h2;cases hm:aW m with
    |none=>rw[hm]at h2;cases h2
    |some ws=>rw[hm]at h2;cases h2;exact⟨ws,rfl,rfl⟩
   have cons2:∀{c:AC}{m:List AC}{v:Value},c.val?=some v->aW (c::m)=some vs'->∃ws,vs'=v::ws∧aW m=some ws:=by
    intro c m v h1 h2;unfold aW at h2;rw[h1]at h2;cases hm:aW m with
    |none=>rw[hm]at h2;cases h2
    |some ws=>rw[hm]at h2;cases h2;exact⟨ws,rfl,rfl⟩
   cases hd:P.underlying f.type with
   |none=>rw[hd]at h;cases h
   |some d=>
    rw[hd]at h;cases hk:jh P (i+1) fs with
    |none=>rw[hk]at h;cases d<;>cases h
    |some ks'=>
     rw[hk]at h;cases d with
     |string=>
      have h2:FK.s::ks'=ks:=Option.some.inj h;subst h2;unfold dB at he;split at he<;>first|(cases he;done)|skip
      ·rename_i e;cases e
      ·rename_i e
       cases e
       rename_i a m b m'
       obtain⟨ws,e1,hw⟩:=cons1 (v:=.string ⟨a.toArray⟩) rfl hv
       obtain⟨ws',e2,Y3⟩:=cons2 (v:=.string ⟨b.toArray⟩) rfl Z3
       cases hr:dB ks' m m' with
       |none=>rw[hr]at he;cases he
       |some r'=>
        rw[hr]at he;cases he
        exact step .string _ _ ws ws' ks' m m' (a==b) r' hd (λ_ h=>by cases h) (λ_ _ h=>by cases h) (by rw[Pk (bK hd),IA]) e1 e2 hk hr hw Y3 rfl
      ·rename_i e;cases e
      rename_i e;cases e
     |int kk=>
      have h2:FK.i::ks'=ks:=Option.some.inj h;subst h2;unfold dB at he;split at he<;>first|(cases he;done)|skip
      ·rename_i e;cases e
      ·rename_i e;cases e
      ·rename_i e
       cases e
       rename_i k a m k' b m'
       split at he
       ·rename_i ek
        subst ek;obtain⟨ws,e1,hw⟩:=cons1 (v:=.int k a) rfl hv
        obtain⟨ws',e2,Y3⟩:=cons2 (v:=.int k b) rfl Z3
        cases hr:dB ks' m m' with
        |none=>rw[hr]at he;cases he
        |some r'=>
         rw[hr]at he;cases he
         exact step (.int kk) _ _ ws ws' ks' m m' (a==b) r' hd (λ_ h=>by cases h) (λ_ _ h=>by cases h) (eq_int (bK hd) k a b) e1 e2 hk hr hw Y3 rfl
       cases he
      rename_i e;cases e
     |bool=>
      have h2:FK.b::ks'=ks:=Option.some.inj h;subst h2;unfold dB at he;split at he<;>first|(cases he;done)|skip
      ·rename_i e;cases e
      ·rename_i e;cases e
      ·rename_i e;cases e
      rename_i e
      cases e
      rename_i a m b m'
      obtain⟨ws,e1,hw⟩:=cons1 (v:=.bool a) rfl hv
      obtain⟨ws',e2,Y3⟩:=cons2 (v:=.bool b) rfl Z3
      cases hr:dB ks' m m' with
      |none=>rw[hr]at he;cases he
      |some r'=>
       rw[hr]at he;cases he
       exact step .bool _ _ ws ws' ks' m m' (a==b) r' hd (λ_ h=>by cases h) (λ_ _ h=>by cases h) (KT (bK hd) a b) e1 e2 hk hr hw Y3 rfl
     |_=>cases h
def bH(P:Program)(tm:PT AV)(h:Hp)(o:Oper):ab:=aq P tm h o
def Wg(ks:List FK)(f:Bool->Bool)(H:Hp)(alt:ab)(x y:AV):ab:=
 match x,y with
 |.agg l,.agg l'=>match dB ks l l' with|some b=>.val (.one (.b (f b))) H|none=>alt
 |_,_=>alt
def Zm(f:Bool->Bool)(H:Hp)(alt:ab)(o:Option Bool):ab:=match o with|some b=>.val (.one (.b (f b))) H|none=>alt
def AK{f:Bool->Bool}{H:Hp}{alt:ab}{b:Bool}:Zm f H alt (some b)=.val (.one (.b (f b))) H:=rfl
def GC{ks:List FK}{f:Bool->Bool}{H:Hp}{alt:ab}{l l':List AC}:Wg ks f H alt (.agg l) (.agg l')=Zm f H alt (dB ks l l'):=rfl
def tH{P:Program}{op:BinOp}{t:TypeId}{x y:Operand}{a b:Array Value}(hg:P.eqGuardType P.depth t=false):ax P (eqGuard op t x y (.agg a) (.agg b))=some ():=by
 unfold eqGuard;cases op<;>first
  |rfl
  |(show ax P (Sem.bind _ _)=_
    rw[aQ];show ax P (if(!P.eqGuardType P.depth t)=true then _ else _)=_;rw[hg];rfl)
def VK{ks:List FK}:∀{l l':List AC}{r:Bool},dB ks l l'=some r->(∃vs,aW l=some vs)∧(∃vs,aW l'=some vs)∧(aW l).isSome=true:=by
 induction ks with
 |nil=>
  intro l l' r h;cases l<;>cases l'<;>first|(cases h;done)|exact⟨⟨[],rfl⟩,⟨[],rfl⟩,rfl⟩
 |cons k ks ih=>
  intro l l' r h;unfold dB at h;split at h<;>first|(cases h;done)|skip
  ·rename_i e;cases e
  ·rename_i e;cases e
   rename_i a m b m'
   cases hr:dB ks m m' with
   |none=>rw[hr]at h;cases h
   |some r'=>
    obtain⟨⟨vs,h1⟩,⟨vs',h2⟩,_⟩:=ih hr
    exact⟨⟨.string ⟨a.toArray⟩::vs,by simp only[aW,AC.val?,h1]⟩,⟨.string ⟨b.toArray⟩::vs',by simp only[aW,AC.val?,h2]⟩,by simp only[aW,AC.val?,h1];rfl⟩
  ·rename_i e;cases e
   rename_i k a m k' b m'
   split at h
   ·cases hr:dB ks m m' with
    |none=>rw[hr]at h;cases h
    |some r'=>
     obtain⟨⟨vs,h1⟩,⟨vs',h2⟩,_⟩:=ih hr
     exact⟨⟨.int k a::vs,by simp only[aW,AC.val?,h1]⟩,⟨.int k' b::vs',by simp only[aW,AC.val?,h2]⟩,by simp only[aW,AC.val?,h1];rfl⟩
   cases h
  rename_i e;cases e
  rename_i a m b m'
  cases hr:dB ks m m' with
  |none=>rw[hr]at h;cases h
  |some r'=>
   obtain⟨⟨vs,h1⟩,⟨vs',h2⟩,_⟩:=ih hr
   exact⟨⟨.bool a::vs,by simp only[aW,AC.val?,h1]⟩,⟨.bool b::vs',by simp only[aW,AC.val?,h2]⟩,by simp only[aW,AC.val?,h1];rfl⟩
def OX{P:Program}{t:TypeId}{ks:List FK}(h:eqK P t=some ks){l l':List AC}{vs vs':List Value}{r:Bool}(hr:dB ks l l'=some r)(hv:aW l=some vs)(Z3:aW l'=some vs'):
  ax P (Op.equal t (.agg vs.toArray) (.agg vs'.toArray))=some r∧P.eqGuardType P.depth t=false:=by
 unfold eqK at h;cases hu:P.underlying t with
 |none=>rw[hu]at h;cases h
 |some d=>
  rw[hu]at h;cases d with
  |struct fs=>
   simp only at h
   cases hb:(P.stoodInHeld t||P.eqGuardType P.depth t)with
   |true=>rw[hb]at h;cases h
   |false=>
    rw[hb]at h;rw[Bool.or_eq_false_iff]at hb;obtain⟨h1,bs,h2,h3⟩:=Gz (P:=P) (n:=9998) fs.toList 0 ks l l' r [] [] vs vs' h hr hv Z3 rfl rfl
    refine⟨?_,hb.2⟩
    rw[<-h3];exact Oo (n:=9999) (bK hu) hb.1 h1 _ _ bs h2
  |_=>cases h
def Pa{P:Program}{tm:PT AV}{H:Hp}{d:Option Tmp}{t c:TypeId}{x y:Operand}{ty:TypeId}{pos:String}{af:Array Edge}{g:Option (Nat×Bool)}{ks:List FK}(h:eqK P t=some ks)(op:BinOp)(f:Bool->Bool)
  (hop:∀a b:Array Value,binOp op t (.agg a) (.agg b)=(do pure (.bool (f (<-Op.equal t (.agg a) (.agg b)))))):aq P tm H ⟨d,.binOp op t x y c,ty,pos,af,g⟩=Wg ks f H (bH P tm H ⟨d,.binOp op t x y c,ty,pos,af,g⟩) (ev tm x) (ev tm y):=by
 unfold Wg;split
 ·rename_i l l' hx hy
  split
  ·rename_i r hr
   obtain⟨⟨vs,h1⟩,⟨vs',h2⟩,_⟩:=VK hr
   obtain⟨h3,h4⟩:=OX h hr h1 h2
   have vx:(ev tm x).val?=some (.agg vs.toArray):=by rw[hx];simp only[AV.val?,h1]
   have vy:(ev tm y).val?=some (.agg vs'.toArray):=by rw[hy];simp only[AV.val?,h2]
   have dx:bk (ev tm x)=.agg vs.toArray:=by unfold bk;rw[vx]
   have dy:bk (ev tm y)=.agg vs'.toArray:=by unfold bk;rw[vy]
   unfold aq;have e1:((⟨d,.binOp op t x y c,ty,pos,af,g⟩:Oper).op.operands.toList.all λx=>(ev tm x).val?.isSome)=true:=by
    show([x,y].all λx=>(ev tm x).val?.isSome)=true
    simp only[List.all_cons,List.all_nil,vx,vy];rfl
   rw[e1];have e2:ax P (execOp (λx=>bk (ev tm x)) ⟨d,.binOp op t x y c,ty,pos,af,g⟩)=some (.value (.bool (f r))):=by
    show ax P (Sem.bind (Sem.bind (eqGuard op t x y (bk (ev tm x)) (bk (ev tm y))) λ_=>binOp op t (bk (ev tm x)) (bk (ev tm y))) λv=>Sem.pure (Next.value v))=_;rw[dx,dy,aQ,aQ,tH h4,hop];simp only[Option.bind_some];rw[bc,h3];rfl
   rw[e2];rfl
  rfl
 rfl
def NQ{P:Program}{tm:PT AV}{H:Hp}{d:Option Tmp}{t c:TypeId}{x y:Operand}{ty:TypeId}{pos:String}{af:Array Edge}{g:Option (Nat×Bool)}{ks:List FK}(h:eqK P t=some ks):
  aq P tm H ⟨d,.binOp .eql t x y c,ty,pos,af,g⟩=Wg ks id H (bH P tm H ⟨d,.binOp .eql t x y c,ty,pos,af,g⟩) (ev tm x) (ev tm y):=Pa h .eql id λ_ _=>rfl
def LD{H:Hp}{kd:Nat}{op:BinOp}{f:BF}{l:List AC}{y:AV}{alt:ab}:bp H kd op f (.agg l) y alt=alt:=rfl
def Xh{H:Hp}{kd:Nat}{op:BinOp}{f:BF}{x:Bool}{y:AV}{alt:ab}:bp H kd op f (.one (.b x)) y alt=alt:=rfl
def KD(f:Bool->Bool->Bool)(H:Hp)(alt:ab)(x y:AV):ab:=
 match x,y with
 |.one (.b a),.one (.b b)=>.val (.one (.b (f a b))) H
 |_,_=>alt
def Mg{f:Bool->Bool->Bool}{H:Hp}{alt:ab}{a b:Bool}:KD f H alt (.one (.b a)) (.one (.b b))=.val (.one (.b (f a b))) H:=rfl
def Ij{P:Program}{tm:PT AV}{H:Hp}{d:Option Tmp}{t c:TypeId}{x y:Operand}{ty:TypeId}{pos:String}{af:Array Edge}{g:Option (Nat×Bool)}(h:P.underlying t=some .bool)(op:BinOp)(f:Bool->Bool->Bool)
  (hop:∀a b:Bool,ax P (binOp op t (.bool a) (.bool b))=some (.bool (f a b))) (hg:∀a b,eqGuard op t x y (.bool a) (.bool b)=pure ()):aq P tm H ⟨d,.binOp op t x y c,ty,pos,af,g⟩=KD f H (bH P tm H ⟨d,.binOp op t x y c,ty,pos,af,g⟩) (ev tm x) (ev tm y):=by
 unfold KD;split
 ·rename_i a b hx hy
  have vx:(ev tm x).val?=some (.bool a):=by rw[hx];rfl
  have vy:(ev tm y).val?=some (.bool b):=by rw[hy];rfl
  have dx:bk (ev tm x)=.bool a:=by unfold bk;rw[vx]
  have dy:bk (ev tm y)=.bool b:=by unfold bk;rw[vy]
  unfold aq;have e1:((⟨d,.binOp op t x y c,ty,pos,af,g⟩:Oper).op.operands.toList.all λx=>(ev tm x).val?.isSome)=true:=by
   show([x,y].all λx=>(ev tm x).val?.isSome)=true
   simp only[List.all_cons,List.all_nil,vx,vy];rfl
  rw[e1];have e2:ax P (execOp (λx=>bk (ev tm x)) ⟨d,.binOp op t x y c,ty,pos,af,g⟩)=some (.value (.bool (f a b))):=by
   show ax P (Sem.bind (Sem.bind (eqGuard op t x y (bk (ev tm x)) (bk (ev tm y))) λ_=>binOp op t (bk (ev tm x)) (bk (ev tm y))) λv=>Sem.pure (Next.value v))=_;rw[dx,dy,aQ,aQ,hg];show(((ax P (binOp op t (.bool a) (.bool b)))).bind _)=_
   rw[hop];rfl
  rw[e2];rfl
 rfl
def II{P:Program}{tm:PT AV}{H:Hp}{d:Option Tmp}{t c:TypeId}{x y:Operand}{ty:TypeId}{pos:String}{af:Array Edge}{g:Option (Nat×Bool)}(h:P.underlying t=some .bool):
  aq P tm H ⟨d,.binOp .neq t x y c,ty,pos,af,g⟩=KD (λa b=>!(a==b)) H (bH P tm H ⟨d,.binOp .neq t x y c,ty,pos,af,g⟩) (ev tm x) (ev tm y):=
 Ij h .neq _ (λa b=>by
  show ax P (Sem.bind (Op.equalIn 10000 t (.bool a) (.bool b)) λr=>Sem.pure (Value.bool (!r)))=_;rw[aQ,KT (n:=9999) (bK h)];rfl) λ_ _=>rfl
structure iM where
 cells:List AC
 p:Place
def IB:Nat->List (Option iM)->PT aJ
 |_,[]=>.leaf
 |n,none::l=>IB (n+1) l
 |n,some x::l=>(IB (n+1) l).set n (.ro x.cells)
def iX(l:List (Option iM)):Pl:=λi g=>if g=0 then((l[i]?).join).map iM.p else none
def vK(i:Nat):∀(l:List (Option iM))(n:Nat),(IB n l).get i=if n≤i then((l[i-n]?).join).map λx=>.ro x.cells else none
 |[],n=>by
  show(PT.leaf:PT aJ).get i=_
  split<;>simp[PT.get]
 |none::l,n=>by
  show(IB (n+1) l).get i=_
  rw[vK i l (n+1)];by_cases h:n+1≤i
  ·have e:i-n=(i-(n+1))+1:=by omega
   rw[zB0 h,zB0 (by omega),e,List.getElem?_cons_succ]
  rw[zB1 h];by_cases h2:n≤i
  ·have e:i-n=0:=by omega
   rw[zB0 h2,e];rfl
  rw[zB1 h2]
 |some x::l,n=>by
  show((IB (n+1) l).set n (.ro x.cells)).get i=_
  rw[PT.dv,vK i l (n+1)];by_cases h0:i=n
  ·subst h0;rw[zB0 rfl,zB0 (zA1 _),Nat.sub_self];rfl
  rw[zB1 h0];by_cases h:n+1≤i
  ·have e:i-n=(i-(n+1))+1:=by omega
   rw[zB0 h,zB0 (by omega),e,List.getElem?_cons_succ]
  rw[zB1 h,zB1 (by omega)]
def lM(l:List (Option iM)):Hp:=⟨IB 0 l,l.length,[]⟩
def jR(l:List (Option iM))(i:Nat):(lM l).get i=((l[i]?).join).map λx=>.ro x.cells:=by
 show(IB 0 l).get i=_
 rw[vK i l 0,zB0 (Nat.zero_le _),Nat.sub_zero]
def Dj{l:List (Option iM)}{id:Nat}{o:aJ}(h:(lM l).get id=some o):o.jJ=true:=by
 rw[jR]at h;cases hl:(l[id]?).join with
 |none=>rw[hl]at h;cases h
 |some x=>rw[hl]at h;cases h;rfl
def Rs{l:List (Option iM)}{w:World}(h:∀(i:Nat) (x:iM),(l[i]?).join=some x->oX (iX l) w x.cells x.p)(m:Nat):Rel m (iX l) (lM l) w where
 obj:=λid o ho=>by
  rw[jR]at ho;cases hl:(l[id]?).join with
  |none=>rw[hl]at ho;cases ho
  |some x=>
   rw[hl]at ho;cases ho;exact⟨x.p,by show(if(0:Nat)=0 then _ else _)=_;rw[zB0 rfl,hl];rfl,h id x hl⟩
 sep:=λid id' o o' g g' p p' h1 h2 _ _ _ _ _=>.inr ⟨Dj h1,Dj h2⟩
 wf:=λid hid=>by
  have G6:l.length≤id:=hid;rw[jR,List.getElem?_eq_none G6];rfl
 free:=λid g hid _=>by
  have G6:l.length≤id:=hid;unfold iX;split
  ·rw[List.getElem?_eq_none G6];rfl
  rfl
def Ga{E:Env}(hE:qC E){f:FuncId}{args:List AV}{vs:List Value}{w:World}{l:List (Option iM)}(h:∀(i:Nat) (x:iM),(l[i]?).join=some x->oX (iX l) w x.cells x.p)(ha:ARs (iX l) args vs)
  (hc:C1 E f args (lM l) λv _=>v=.one (.b true)):Calls E.P f vs.toArray w λe w'=>e=.returned (.bool true)∧Grown w w':=by
 obtain⟨n,v,H',h1,rfl⟩:=hc
 refine(callsIn_wide (n:=0)).1 (((qu hE (Fl hE) n).call (m:=H'.nx) (zA1 _) (Rs h _) ha h1 λx hx=>?_).mono λe w' he=>?_)
 ·rw[List.mem_singleton.1 hx];exact zA1 _
 obtain⟨u,rfl,x,hx,β',har,_,Q0⟩:=he
 rw[List.mem_singleton.1 hx]at har Q0;have hu:u=.bool true:=har;subst hu;refine⟨rfl,Q0.os,Q0.tape,Q0.output,Q0.size,λb hb=>Q0.frame b hb λid o g p ho hg _=>?_⟩
 have:=Dj ho;rw[hg.2]at this;cases this
def dg(H:Hp)(v:AC)(e:TypeId)(sz n:Nat)(cells:List AC)(r:Option Nat):Prop:=
 (v=.o .nilS∧n=0∧cells=[]∧r=none)∨∃id lo gen,r=some id∧v=.o (.sl id gen 0 n sz)∧H.get id=some (.arr cells e lo gen)∧lo≤gen∧cells.length=n*sz∧id<H.nx
def dg.fr{H H':Hp}{v:AC}{e:TypeId}{sz n:Nat}{cells:List AC}{r:Option Nat}{X:Nat->Prop}(h:dg H v e sz n cells r)(hf:Fr X H H')(hx:∀i,r=some i->¬X i):dg H' v e sz n cells r:=by
 rcases h with h|⟨id,lo,gen,h1,h2,h3,h4,h5,h6⟩
 ·exact .inl h
 exact .inr ⟨id,lo,gen,h1,h2,(hf.get id h6 (hx id h1)).trans h3,h4,h5,zA0 h6 hf.nx⟩
def dg.lt{H:Hp}{v:AC}{e:TypeId}{sz n:Nat}{cells:List AC}{r:Option Nat}(h:dg H v e sz n cells r):ltV (.one v) H.nx:=by
 rcases h with⟨rfl,_⟩|⟨id,lo,gen,_,rfl,_,_,_,h6⟩
 ·rw[tR];trivial
 rw[CD];exact h6
def dg.slc{H:Hp}{v:AC}{e:TypeId}{sz n:Nat}{cells:List AC}{r:Option Nat}(h:dg H v e sz n cells r):SlC H v sz n cells:=by
 rcases h with⟨rfl,rfl,rfl,_⟩|⟨id,lo,gen,_,rfl,h3,h4,h5,h6⟩
 ·exact⟨by simp,.inl ⟨rfl,rfl⟩⟩
 refine⟨h5,.inr ⟨id,gen,0,rfl,h6,cells,by rw[h3];exact cG h4 (zA1 _),by omega,?_⟩⟩
 rw[List.drop_zero,List.take_of_length_le (by omega)]
def sH{H:Hp}{id g off len sz:Nat}{cells:List AC}(h:rowOf (H.get id) g=some cells)(hl:off+len*sz≤cells.length):jt H sz (.one (.o (.sl id g off len sz)))=some (len,(cells.drop off).take (len*sz)):=by
 have hr:eN H id g off (Nat.mul len sz) (Nat.mul len sz)=some ((cells.drop off).take (len*sz)):=by
  unfold eN;rw[Kv,h];simp only[Option.bind_some];rw[zB0 ⟨zA1 _,hl⟩];rfl
 show(match Nat.beq sz sz,eN H id g off (Nat.mul len sz) (Nat.mul len sz)with|true,some c=>some (len,c)|_,_=>none)=_
 rw[Nat.beq_refl,hr]
def wy{P:Program}{H:Hp}{t e:TypeId}{sz by_ n k:Nat}{z:Value}{v:AC}{x:AV}{cells c:List AC}{r:Option Nat}(he:bt P t=some (e,sz))(hb:cK P e=some by_)(hz:ay P e=some z)(B2:(ofValue z).cells.length=sz)(L1:sz≠0)
  (ho:dg H v e sz n cells r) (hs:jt H sz x=some (k,c)) (hk:k≠0) (hc:c.length=k*sz) (h1:n+k≤140737488355328) (h2:(n+k)*by_≤140737488355328):
  ∃v' H' r',bh P H t (.one v) x=.val (.one v') H'∧dg H' v' e sz (n+k) (cells++c) (some r')∧Fr (λi=>r=some i) H H'∧(r=some r'∨r=none∧r'=H.nx):=by
 have e1:Nat.beq sz 0=false:=by
  cases h:Nat.beq sz 0 with
  |false=>rfl
  |true=>exact absurd (zA3 h) L1
 have e2:Nat.beq k 0=false:=by
  cases h:Nat.beq k 0 with
  |false=>rfl
  |true=>exact absurd (zA3 h) hk
 have e3:both (!Nat.beq sz 0) (Nat.beq (bq (ofValue z).cells) sz)=true:=by rw[e1,bj,B2,Nat.beq_refl];rfl
 have step:bh P H t (.one v) x=dp H e sz by_ k c (.one v):=by
  unfold bh;simp only[he,hb,hz,nd,e3,aA,hs]
 rcases ho with⟨rfl,rfl,rfl,rfl⟩|⟨id,lo,gen,rfl,rfl,h3,h4,h5,h6⟩
 ·refine⟨.o (.sl H.nx 0 0 k sz),H.new (.arr c e 0 0),H.nx,?_,.inr ⟨H.nx,0,0,rfl,by rw[Nat.zero_add],by rw[aB rfl,List.nil_append],zA1 _,by rw[List.nil_append,Nat.zero_add,hc],zA6 _⟩,(Fr.refl _).new _,.inr ⟨rfl,rfl⟩⟩
  rw[step];show Eng.ifE (Nat.beq k 0) _ (aA (both (Nat.ble k 140737488355328) (Nat.ble (Nat.mul k by_) 140737488355328)) _ _)=_;rw[Nat.zero_add]at h1 h2;have f2:Nat.ble (Nat.mul k by_) 140737488355328=true:=zA5 h2;rw[e2,zA5 h1,f2];rfl
 refine⟨.o (.sl id (gen+1) 0 (n+k) sz),H.mod id (.arr (cells++c) e lo (gen+1)),id,?_,.inr ⟨id,lo,gen+1,rfl,rfl,an rfl,zA7 h4,by rw[List.length_append,h5,hc,Nat.add_mul],h6⟩,(Fr.refl _).mod _ (.inr rfl),.inl rfl⟩
 rw[step];show nh (H.get id) _ _=_;rw[h3];show aA (both (Nat.beq sz sz) (both (Nat.beq e e) (both (Nat.ble lo gen) (both (Nat.ble gen gen) (both (Nat.ble (Nat.add 0 (Nat.mul n sz)) (bq cells)) (both (Nat.ble (Nat.add n k) 140737488355328) (Nat.ble (Nat.mul (Nat.add n k) by_) 140737488355328))))))) _
  (Eng.ifE (Nat.beq k 0) _ (Eng.ifE (both (Nat.beq gen gen) (both (Nat.beq 0 0) (Nat.beq (Nat.mul n sz) (bq cells)))) _ _))=_
 have g5:Nat.ble (Nat.add 0 (Nat.mul n sz)) (bq cells)=true:=by
  rw[bj,h5];exact zA5 (by show 0+n*sz≤n*sz;omega)
 have g6:Nat.ble (Nat.add n k) 140737488355328=true:=zA5 h1;have g7:Nat.ble (Nat.mul (Nat.add n k) by_) 140737488355328=true:=zA5 h2;have g8:Nat.beq (Nat.mul n sz) (bq cells)=true:=by
  rw[bj,h5];exact Nat.beq_refl (n*sz)
 rw[Nat.beq_refl,Nat.beq_refl,Nat.beq_refl,zA5 h4,zA5 (zA1 gen),g5,g6,g7,g8,e2,gE];rfl
end Go.Eng
end

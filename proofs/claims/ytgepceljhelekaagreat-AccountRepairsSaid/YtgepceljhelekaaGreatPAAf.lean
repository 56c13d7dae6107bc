/- A part of the proof. -/
import Derived.Test.YtgepceljhelekaaGreatPAAe
import Derived.Deep.Slices
import Derived.SizedLaws
import Derived.KernelRfl
set_option maxRecDepth 100000
set_option maxHeartbeats 64000000
set_option linter.all false
namespace Go.Eng
open Go
def R1.lS{E:Env}{r:Option Nat}{A:ag}{H:Hp}{Q:au->ag->Hp->Prop}{id:Nat}{c:Code}(h:∀K:au->ag->Hp->Prop,(∀A H,Q .normal A H->K .normal A H)->(∀A H,Q .normal A H->K (.exit id) A H)->(∀i A H,i≠id->Q (.exit i) A H->K (.exit i) A H)->(∀A H,Q .ret A H->K .ret A H)->R1 E r c A H K):R1 E r (.block id c) A H Q:=by
 refine R1.block (h _ (λ_ _ h=>h) (λA H h=>?_) (λi A H hi h=>?_) λ_ _ h=>h)
 ·show if id=id then Q .normal A H else Q (.exit id) A H;rw[ad rfl];exact h
 show if i=id then Q .normal A H else Q (.exit i) A H;rw[ab hi];exact h
structure Sm(L:Nat)(H H':Hp):Prop where
 nx:H.nx<=H'.nx
 get:∀i,i<H.nx->i≠L->H'.get i=H.get i
def Sm.refl{L:Nat}(H:Hp):Sm L H H:=⟨ai _,λ_ _ _=>rfl⟩
def Sm.same{L:Nat}{H H':Hp}(ht:H'.t=H.t)(hn:H'.nx=H.nx):Sm L H H':=⟨mZ hn.symm,λi _ _=>by show H'.t.get i=H.t.get i;rw[ht]⟩
def Sm.trans{L:Nat}{H H1 H2:Hp}(h:Sm L H H1)(k:Sm L H1 H2):Sm L H H2:=
 ⟨aS h.nx k.nx,λi hi hn=>(k.get i (ax hi h.nx) hn).trans (h.get i hi hn)⟩
def Sm.mod{L:Nat}(H:Hp)(o:aX):Sm L H (H.mod L o):=⟨ai _,λi _ hn=>aB hn⟩
def abN(E:Env)(n:ah)(H:Hp)(X:Nat->Prop)(Q:AV->Hp->Prop):Prop:=
 ∀lg,N1 E ⟨H.t,H.nx,lg⟩ n λv h'=>Fr X ⟨H.t,H.nx,lg⟩ h'/\∀lg',Q v ⟨h'.t,h'.nx,lg'⟩
section
variable{E:Env}{H:Hp}{X:Nat->Prop}{Q:AV->Hp->Prop}
def WE.abY{A:ag}{d:Option Tmp}{next:ag->Hp->Prop}{id:Nat}{args:List AV}(h:abN E (.round id args) H X Q)(hn:∀v H',Fr X H H'->Q v H'->next (cU A d v) H'):WE false E A d next H (.round id args):=λlg=>
 (h lg).mono λ_ _⟨h1,h2⟩=>⟨λh=>(by cases h),λlg' hx=>hn _ _ (hx X h1) (h2 lg')⟩
def DK{P:Program}{id:Nat}{args:List AV}:uv P (.one (.o (.yl id))) args=.round id args:=rfl
end
def gy(tm:PT AV)(nt:Nat)(ps:List Tmp)(as bo:Code)(d:Nat)(st:LoopState)(pe:Option Code):aX:=.oth (.loop st pe tm nt ps as bo d)
def Mf(tm:PT AV)(nt:Nat)(ps:List Tmp)(as bo:Code)(d:Nat):au->aX
 |.normal=>gy tm nt ps as bo d .ready none
 |.ret=>gy tm nt ps as bo d .done (some .ret)
 |.exit k=>gy tm nt ps as bo d .done (some (.exit k))
def Mr:au->Bool
 |.normal=>true
 |_=>false
def N1.round{E:Env}{H:Hp}{L:Nat}{args:List AV}{Q:AV->Hp->Prop}{tm:PT AV}{nt:Nat}{ps:List Tmp}{as bo:Code}{d:Nat}
  (hg:H.get L=some (gy tm nt ps as bo d .ready none)) (hl:args.length=ps.length) (hp:(ps.all λp=>Nat.blt p nt)=true)
  (h:R1 E (some L) as ⟨iM ps args tm,nt,[]⟩ H λe A1 H1=>e=.normal/\H1.get L=some (gy tm nt ps as bo d .ready none) /\
   R1 E (some L) bo A1 (H1.mod L (gy tm nt ps as bo d .busy none)) λe A2 H2=>A2.dfr=[]/\H2.get L=some (gy tm nt ps as bo d .busy none)/\Q (.one (.b (Mr e))) (H2.mod L (Mf tm nt ps as bo d e))):
  N1 E H (.round L args) Q:=by
 obtain⟨n,e,A1,H1,h1,rfl,h2,k,e2,A2,H2,h3,h4,h5,h6⟩:=h;refine⟨max n k+1,.one (.b (Mr e2)),H2.mod L (Mf tm nt ps as bo d e2),?_,h6⟩;have a1:=hY (fw E (sy n k)) as (some L) _ _ _ h1;have a2:=hY (fw E (pY n k)) bo (some L) _ _ _ h3;show jD (eval E (max n k+1)) L args H=_;unfold jD;rw[hg];have hb:both (Nat.beq (vZ args) (vZ ps)) (ps.all λp=>Nat.blt p nt)=true:=by
  rw[hp];have:Nat.beq (vZ args) (vZ ps)=true:=by rw[show vZ args=vZ ps from hl];exact cZ _
  rw[this];rfl
 show Eng.ifE (both (Nat.beq (vZ args) (vZ ps)) (ps.all λp=>Nat.blt p nt)) (((eval E (max n k+1)).code (some L) as ⟨iM ps args tm,nt,[]⟩ H).bind (ir (eval E (max n k+1)) L bo)) _=_;rw[hb];have c1:(eval E (max n k+1)).code (some L) as ⟨iM ps args tm,nt,[]⟩ H=.ok [(.normal,A1,H1)]:=a1;show((eval E (max n k+1)).code (some L) as ⟨iM ps args tm,nt,[]⟩ H).bind (ir (eval E (max n k+1)) L bo)=_;rw[c1];show ir (eval E (max n k+1)) L bo (.normal,A1,H1)=_;unfold ir;simp only[h2];show((eval E (max n k+1)).code (some L) bo A1 (H1.mod L (gy tm nt ps as bo d .busy none))).bind (mT L)=_;have c2:(eval E (max n k+1)).code (some L) bo A1 (H1.mod L (gy tm nt ps as bo d .busy none))=.ok [(e2,A2,H2)]:=a2;rw[c2];show mT L (e2,A2,H2)=_;unfold mT;simp only[h4,h5];cases e2<;>rfl
structure YB(E:Env)(L:Nat)(n:Nat)(ar:Nat->List AV)(D:Nat->Prop)(σ:Type)where
 J:Nat->σ->Hp->Prop
 F:σ->Hp->Prop
 fp:σ->Nat->Prop
 hJ:∀{i s H H'},J i s H->H.nx<=H'.nx->(∀k,k<H.nx->H'.get k=H.get k)->J i s H'
 hF:∀{s H H'},F s H->H.nx<=H'.nx->(∀k,k<H.nx->H'.get k=H.get k)->F s H'
 hl:∀{i s H k},J i s H->fp s k->k<H.nx/\¬D k
 pass:∀i s H,i<n->J i s H->abN E (.round L (ar i)) H (fp s) λv H'=>∃b s',v=.one (.b b)/\(b=true->J (i+1) s' H')/\(b=false->F s' H')/\∀k,fp s' k->fp s k\/H.nx<=k
def ItC(E:Env)(g:FuncId)(caps:List (Nat×Nat×Nat×Nat))(n:Nat)(ar:Nat->List AV)(D:Nat->Prop)(H0:Hp):Prop:=
 ∀(σ:Type)(L:Nat)(B:YB E L n ar D σ)(s:σ)(H:Hp),H0.nx<=H.nx->(∀k,k<H0.nx->H.get k=H0.get k)->B.J 0 s H ->
  Con E g (.one (.o (.yl L))::iD caps) H (B.fp s) λ_ H'=>∃s',(B.J n s' H'\/B.F s' H')/\∀k,B.fp s' k->B.fp s k\/H.nx<=k
def C1.abh{E:Env}{f:FuncId}{args:List AV}{H:Hp}{X:Nat->Prop}{Q:AV->Hp->Prop}(hp:E.fJ f args=none)(h:Con E f args H X Q)(hq:E.eN f args H=none:=by rfl):C1 E f args H λv H'=>Fr X H H'/\Q v H':=by obtain⟨n,v,H',h1,h2,h3⟩:=h H.log;have m7:rk E (eval E n) f args H=.ok [(v,H')]:=h1;unfold rk at m7;rw[hp]at m7;have m7:aG (E.eN f args ⟨H.t,H.nx,H.log⟩) ((eval E n).call f args ⟨H.t,H.nx,H.log⟩) (λx=>.ok [(x.1,(⟨H.t,H.nx,H.log⟩:Hp).mod x.2.1 x.2.2)])=.ok [(v,H')]:=m7;have M':E.eN f args ⟨H.t,H.nx,H.log⟩=none:=hq;rw[M']at m7;exact⟨n,v,H',m7,h2,h3 H'.log⟩
def R1.abk{E:Env}{A:ag}{H:Hp}{Q:au->ag->Hp->Prop}{f:Operand}{params:Array Tmp}{as bo:Code}{g:FuncId}{caps:List (Nat×Nat×Nat×Nat)}
  (hf:ev A.tm f=.one (.o (.clo g caps))) (hb:ao E.P g=true)
  (h:C1 E g (.one (.o (.yl (H.nx+1)))::iD caps) ((H.new (.oth (.dfr true))).new (gy A.tm A.nt params.toList as bo H.nx .ready none)) λ_ H3=>
   ∃e,H3.get (H.nx+1)=some (Mf A.tm A.nt params.toList as bo H.nx e)/\∀o,Q e ⟨A.tm,A.nt,H.nx::A.dfr⟩ (H3.mod (H.nx+1) o)):
  R1 E none (.rangeFunc f params as bo) A H Q:=by
 obtain⟨n,v,H3,h1,e,h2,h3⟩:=h;have key:∀o,im (H.nx+1) ⟨A.tm,A.nt,H.nx::A.dfr⟩ (v,H3)=.ok [(e,⟨A.tm,A.nt,H.nx::A.dfr⟩,H3.mod (H.nx+1) o)]->R1 E none (.rangeFunc f params as bo) A H Q:=λo ho=>by
  refine⟨n,e,⟨A.tm,A.nt,H.nx::A.dfr⟩,H3.mod (H.nx+1) o,?_,h3 o⟩;show kG E (eval E n) none (opF f) params.toList as bo A H=_;unfold kG;show(match(opF f).ev A.tm with
   |.one (.o (.clo g caps))=>Eng.ifE (ao E.P g) (((eval E n).call g (.one (.o (.yl (H.nx+1)))::iD caps) ((H.new (.oth (.dfr true))).new (gy A.tm A.nt params.toList as bo H.nx .ready none))).bind (im (H.nx+1) ⟨A.tm,A.nt,H.nx::A.dfr⟩)) (.bad "rangeFunc - no body")
   |_=>.bad "rangeFunc - no function")=_
  have B9:(opF f).ev A.tm=.one (.o (.clo g caps)):=hf;rw[B9];show Eng.ifE (ao E.P g) _ _=_;rw[hb];show((eval E n).call g (.one (.o (.yl (H.nx+1)))::iD caps) ((H.new (.oth (.dfr true))).new (gy A.tm A.nt params.toList as bo H.nx .ready none))).bind (im (H.nx+1) ⟨A.tm,A.nt,H.nx::A.dfr⟩)=_;rw[h1];exact ho
 cases e with
 |normal=>exact key _ (by unfold im;simp only[h2,Mf,gy];rfl)
 |ret=>exact key _ (by unfold im;simp only[h2,Mf,gy];rfl)
 |exit i=>exact key _ (by unfold im;simp only[h2,Mf,gy];rfl)
def R1.range{E:Env}{A:ag}{H:Hp}{Q:au->ag->Hp->Prop}{f:Operand}{params:Array Tmp}{as bo:Code}{g:FuncId}{caps:List (Nat×Nat×Nat×Nat)}{n:Nat}{ar:Nat->List AV}{D:Nat->Prop}{σ:Type}
  (hf:ev A.tm f=.one (.o (.clo g caps))) (hb:ao E.P g=true) (hpr:∀args,E.fJ g args=none) (Q4:ItC E g caps n ar D H) (hD:∀k,D k->k<H.nx)
  (k_:(params.toList.all λp=>Nat.blt p A.nt)=true) (A_:∀i,i<n->(ar i).length=params.toList.length)
  (J:Nat->σ->Hp->Prop) (F:au->σ->Hp->Prop) (fp:σ->Nat->Prop)
  (hJ:∀{i s H1 H2},J i s H1->Sm (H.nx+1) H1 H2->J i s H2) (hF:∀{e s H1 H2},F e s H1->Sm (H.nx+1) H1 H2->F e s H2)
  (hl:∀{i s H1 k},J i s H1->fp s k->k<H1.nx/\k≠H.nx/\k≠H.nx+1/\¬D k)
  (s0:σ) (h0:∀H1,Gr H H1->H1.nx=H.nx+2->J 0 s0 H1)
  (body:∀i s H1,i<n->J i s H1->H.nx+2<=H1.nx->R1 E (some (H.nx+1)) as ⟨iM params.toList (ar i) A.tm,A.nt,[]⟩ H1 λe A1 H2=>e=.normal/\Fr (fp s) H1 H2 /\
   ∀H3,H3.nx=H2.nx->Sm (H.nx+1) H2 H3->R1 E (some (H.nx+1)) bo A1 H3 λe A2 H4=>A2.dfr=[]/\Fr (λk=>fp s k\/H1.nx<=k) H3 H4/\∃s',(e=.normal->J (i+1) s' H4)/\(e≠.normal->F e s' H4)/\∀k,fp s' k->fp s k\/H1.nx<=k)
  (hn:∀s' H5,J n s' H5->H.nx+2<=H5.nx->H5.get H.nx=some (.oth (.dfr true))->Fr (fp s0) H H5->(∀k,fp s' k->fp s0 k\/H.nx<=k)->Q .normal ⟨A.tm,A.nt,H.nx::A.dfr⟩ H5)
  (hx:∀e s' H5,e≠.normal->F e s' H5->H.nx+2<=H5.nx->H5.get H.nx=some (.oth (.dfr true))->Fr (fp s0) H H5->(∀k,fp s' k->fp s0 k\/H.nx<=k)->Q e ⟨A.tm,A.nt,H.nx::A.dfr⟩ H5)
  (hq:∀args H,E.eN g args H=none:=by intro _ _;rfl):
  R1 E none (.rangeFunc f params as bo) A H Q:=by
 have gL:Gr H ((H.new (.oth (.dfr true))).new (gy A.tm A.nt params.toList as bo H.nx .ready none)):=((Fr.refl _).new _).new _;have nL:((H.new (.oth (.dfr true))).new (gy A.tm A.nt params.toList as bo H.nx .ready none)).nx=H.nx+2:=rfl;have rL:((H.new (.oth (.dfr true))).new (gy A.tm A.nt params.toList as bo H.nx .ready none)).get (H.nx+1)=some (gy A.tm A.nt params.toList as bo H.nx .ready none):=aC rfl;have rd:((H.new (.oth (.dfr true))).new (gy A.tm A.nt params.toList as bo H.nx .ready none)).get H.nx=some (.oth (.dfr true)):=by rw[bw (by rw[wx];omega),aC rfl]
 let B:YB E (H.nx+1) n ar D (au×σ):=
  { J:=λi s H1=>J i s.2 H1/\H1.get (H.nx+1)=some (gy A.tm A.nt params.toList as bo H.nx .ready none)/\H1.get H.nx=some (.oth (.dfr true))/\H.nx+2<=H1.nx
    F:=λs H1=>s.1≠.normal/\F s.1 s.2 H1/\H1.get (H.nx+1)=some (Mf A.tm A.nt params.toList as bo H.nx s.1)/\H1.get H.nx=some (.oth (.dfr true))/\H.nx+2<=H1.nx
    fp:=λs k=>fp s.2 k\/k=H.nx+1
    hJ:=λ{i s H1 H2}⟨h1,h2,h3,h4⟩hn hg=>⟨hJ h1 ⟨hn,λk hk _=>hg k hk⟩,by rw[hg _ aa];exact h2,by rw[hg _ aa];exact h3,aS h4 hn⟩
    hF:=λ{s H1 H2}⟨h0,h1,h2,h3,h4⟩hn hg=>⟨h0,hF h1 ⟨hn,λk hk _=>hg k hk⟩,by rw[hg _ aa];exact h2,by rw[hg _ aa];exact h3,aS h4 hn⟩
    hl:=λ{i s H1 k}⟨h1,h2,h3,h4⟩hk=>by
     rcases hk with hk|rfl
     ·exact⟨(hl h1 hk).1,(hl h1 hk).2.2.2⟩
     exact⟨aa,λh=>by have:=hD _ h;omega⟩
    pass:=λi s H1 hi⟨h1,h2,h3,h4⟩lg=>by
     have s1:Sm (H.nx+1) H1 ⟨H1.t,H1.nx,lg⟩:=Sm.same rfl rfl;have j1:=hJ h1 s1;have g2:(⟨H1.t,H1.nx,lg⟩:Hp).get (H.nx+1)=some (gy A.tm A.nt params.toList as bo H.nx .ready none):=h2;have g3:(⟨H1.t,H1.nx,lg⟩:Hp).get H.nx=some (.oth (.dfr true)):=h3;have n4:H.nx+2<=(⟨H1.t,H1.nx,lg⟩:Hp).nx:=h4;have e0:H1.nx=(⟨H1.t,H1.nx,lg⟩:Hp).nx:=rfl;rw[e0];generalize(⟨H1.t,H1.nx,lg⟩:Hp)=H1 at j1 g2 g3 n4 |-
     have nfL:¬fp s.2 (H.nx+1):=λh=>(hl j1 h).2.2.1 rfl;have nfd:¬fp s.2 H.nx:=λh=>(hl j1 h).2.1 rfl;refine N1.round g2 (A_ i hi) k_ ((body i s.2 H1 hi j1 n4).mono λe A1 Ha⟨he,hfa,Z6⟩=>⟨he,(hfa.get _ aa nfL).trans g2,?_⟩);have na:=hfa.nx;refine(Z6 (Ha.mod (H.nx+1) (gy A.tm A.nt params.toList as bo H.nx .busy none)) rfl (Sm.mod _ _)).mono λe2 A2 H4⟨A0,hf4,s',hj,hf,M7⟩=>?_;have n5:H1.nx<=H4.nx:=aS na hf4.nx;have gB:H4.get (H.nx+1)=some (gy A.tm A.nt params.toList as bo H.nx .busy none):=by rw[hf4.get _ (by rw[Py];omega) (λh=>h.elim nfL λh=>aa),aq rfl]
     have gD:H4.get H.nx=some (.oth (.dfr true)):=by rw[hf4.get _ (by rw[Py];omega) (λh=>h.elim nfd λh=>aa),aB aa,hfa.get _ aa nfd,g3]
     refine⟨A0,gB,?_,λlg'=>⟨Mr e2,(e2,s'),rfl,λhb=>?_,λhb=>?_,λk hk=>?_⟩⟩
     ·have f1:Fr (λk=>fp s.2 k\/k=H.nx+1) H1 (Ha.mod (H.nx+1) (gy A.tm A.nt params.toList as bo H.nx .busy none)):=(hfa.mono λ_ h=>.inl h).mod _ (.inr (.inr rfl));exact(f1.then hf4 λk hk=>hk.elim (λh=>.inr (.inl h)) λh=>.inl h).mod _ (.inr (.inr rfl))
     ·have he:e2=.normal:=by cases e2<;>first|rfl|cases hb
      subst he;exact⟨hJ (hj rfl) ((Sm.mod _ _).trans (Sm.same rfl rfl)),aq rfl,by show(H4.mod _ _).get _=_;rw[aB aa];exact gD,by show H.nx+2<=H4.nx;omega⟩
     ·have he:e2≠.normal:=λh=>by subst h;cases hb
      exact⟨he,hF (hf he) ((Sm.mod _ _).trans (Sm.same rfl rfl)),aq rfl,by show(H4.mod _ _).get _=_;rw[aB aa];exact gD,by show H.nx+2<=H4.nx;omega⟩
     rcases hk with hk|hk
     ·rcases M7 k hk with h|h
      ·exact .inl (.inl h)
      exact .inr h
     exact .inl (.inr hk) }
 refine R1.abk hf hb ?_;have hcon:=Q4 (au×σ) (H.nx+1) B (.normal,s0) _ gL.nx (λk hk=>gL.get k hk aE) ⟨h0 _ gL nL,rL,rd,mZ nL.symm⟩;refine(C1.abh (hpr _) hcon (hq _ _)).mono λv H3⟨hfr,s',hjf,M7⟩=>?_;have hfr':Fr (λk=>fp s0 k\/k=H.nx+1) _ H3:=hfr;have f1:∀o,Fr (fp s0) H (H3.mod (H.nx+1) o):=λo=>(gL.none.then hfr' λk hk=>hk.elim .inr λh=>.inl aa).mod _ (.inl aa);have f2:∀k,fp s'.2 k->fp s0 k\/H.nx<=k:=λk hk=>by
  rcases M7 k (.inl hk)with(h|h)|h
  ·exact .inl h
  ·exact .inr aa
  exact .inr (by have:H.nx+2<=k:=h;omega)
 rcases hjf with⟨j1,j2,j3,j4⟩|⟨j0,j1,j2,j3,j4⟩
 ·exact⟨.normal,j2,λo=>hn _ _ (hJ j1 (Sm.mod _ _)) j4 (by rw[aB aa];exact j3) (f1 o) f2⟩
 exact⟨s'.1,j2,λo=>hx _ _ _ j0 (hF j1 (Sm.mod _ _)) j4 (by rw[aB aa];exact j3) (f1 o) f2⟩
section
variable{st:Bool}{E:Env}{A:ag}{H:Hp}{next:ag->Hp->Prop}{d:Option Tmp}{ty:TypeId}{pos:String}{af:Array Edge}{gd:Option (Nat×Bool)}
def lkN(next:ag->Hp->Prop)(A:ag)(d:Option Tmp)(P:Program)(H:Hp)(o:Option (TypeId×TypeId))(m k:AV)(ok:Bool):Prop:=kU o λp=>kU (aW P p.2) λz=>vN next A d (bR P H p.1 (ofValue z) m k ok)
def JO{P:Program}{kt et:TypeId}{m k:AV}{ok:Bool}:lkN next A d P H (some (kt,et)) m k ok=kU (aW P et) λz=>vN next A d (bR P H kt (ofValue z) m k ok):=rfl
def upN(next:ag->Hp->Prop)(A:ag)(d:Option Tmp)(P:Program)(H:Hp)(o:Option (TypeId×TypeId))(m k x:AV):Prop:=kU o λp=>vN next A d (bE P H p.1 m k x)
def Lo{P:Program}{kt et:TypeId}{m k x:AV}:upN next A d P H (some (kt,et)) m k x=vN next A d (bE P H kt m k x):=rfl
def Dl{t:TypeId}{m k:Operand}{ok:Bool}:SK st E ⟨d,.lookup t m k ok,ty,pos,af,gd⟩ A H next=(ltV (ev A.tm m) H.nx/\lkN next A d E.P H (kg E.P t) (ev A.tm m) (ev A.tm k) ok):=by
 show(_/\gY _ ((ndF (kg E.P t) _ _).run A.tm H))=_;rw[ef];unfold lkN;cases kg E.P t with
 |none=>rfl
 |some p=>show(_/\gY _ ((ndF (aW E.P p.2) _ _).run A.tm H))=_;rw[ef];rfl
def uZ{t:TypeId}{m k x:Operand}:SK st E ⟨d,.mapUpdate t m k x,ty,pos,af,gd⟩ A H next=(ltV (ev A.tm m) H.nx/\upN next A d E.P H (kg E.P t) (ev A.tm m) (ev A.tm k) (ev A.tm x)):=by show(_/\gY _ ((ndF (kg E.P t) _ _).run A.tm H))=_;rw[ef];rfl
def VA{id n:Nat}:ltV (.one (.o (.mp id))) n=(id<n):=propext ⟨λh=>h id (List.mem_singleton.2 rfl),λh i hi=>by rw[List.mem_singleton.1 hi];exact h⟩
end
def nW:Nat->List (List UInt8×AC)->List cC
 |_,[]=>[]
 |n,(s,v)::l=>⟨.one (.o (.str s)),.one v,n⟩::nW (n+1) l
def lA(l:List (List UInt8×AC)):aX:=.oth (.map (nW 0 l) l.length)
def atK(l:List (List UInt8×AC))(s:List UInt8):Option AC:=
 match l with
 |[]=>none
 |(t,v)::l=>if t=s then some v else atK l s
def IZ:∀(n:Nat)(l:List (List UInt8×AC)),(nW n l).length=l.length
 |_,[]=>rfl
 |n,(s,v)::l=>congrArg (·+1) (IZ (n+1) l)
def IY:∀(n:Nat)(l:List (List UInt8×AC))(s:List UInt8)(v:AC),nW n (l++[(s,v)])=nW n l++[⟨.one (.o (.str s)),.one v,n+l.length⟩]
 |n,[],s,v=>rfl
 |n,(t,w)::l,s,v=>by show _::nW (n+1) (l++[(s,v)])=_::(nW (n+1) l++_);rw[IY (n+1) l s v];have:n+1+l.length=n+(l.length+1):=aa;rw[this];rfl
def Ey{P:Program}{kt:TypeId}(h:bY P kt=0)(s t:List UInt8):lM P kt (.one (.o (.str s))) (.one (.o (.str t)))=some (s==t):=by unfold lM;rw[h,<-fF];rfl
def Bq{P:Program}{kt:TypeId}(h:bY P kt=0)(s:List UInt8):∀(n:Nat)(l:List (List UInt8×AC)),∃e,mI P kt (.one (.o (.str s))) (nW n l)=some e/\e.map cC.val=(atK l s).map AV.one
 |_,[]=>⟨none,rfl,rfl⟩
 |n,(t,v)::l=>by
  obtain⟨e,h1,h2⟩:=Bq h s (n+1) l;have e0:mI P kt (.one (.o (.str s))) (nW n ((t,v)::l))=aG (lM P kt (.one (.o (.str s))) (.one (.o (.str t)))) none λb=>ifE b (some (some ⟨.one (.o (.str t)),.one v,n⟩)) (mI P kt (.one (.o (.str s))) (nW (n+1) l)):=rfl;rw[e0,Ey h];by_cases R3:s=t
  ·subst R3;refine⟨some ⟨.one (.o (.str s)),.one v,n⟩,?_,?_⟩
   ·show ifE (s==s) _ _=_;rw[dk];rfl
   show _=(if s=s then some v else atK l s).map AV.one;rw[ad rfl];rfl
  refine⟨e,?_,?_⟩
  ·show ifE (s==t) _ _=_;rw[aF R3];exact h1
  show _=(if t=s then some v else atK l s).map AV.one;rw[ab (λh=>R3 h.symm)];exact h2
def EN{P:Program}{b:Bool}{kt:TypeId}(h:bY P kt=0)(s:List UInt8):jw P b kt (.one (.o (.str s)))=some ():=by unfold jw;rw[h];rfl
def BO{P:Program}{H:Hp}{kt:TypeId}{z:AV}{id:Nat}{s:List UInt8}{l:List (List UInt8×AC)}{ok:Bool}(h:bY P kt=0)(hg:H.get id=some (lA l)):
  bR P H kt z (.one (.o (.mp id))) (.one (.o (.str s))) ok=(match atK l s with|some v=>bO H ok (.one v) true|none=>bO H ok z false):=by
 obtain⟨e,h1,h2⟩:=Bq h s 0 l;unfold bR;have Q2:H.get id=some (.oth (.map (nW 0 l) l.length)):=hg;simp only[Q2,EN h];show(match mI P kt (.one (.o (.str s))) (nW 0 l)with|some (some e)=>bO H ok e.val true|some none=>bO H ok z false|none=>.bad "lookup - keys")=_
 rw[h1];cases e with
 |none=>
  cases ha:atK l s with
  |none=>rfl
  |some v=>rw[ha]at h2;cases h2
 |some e=>
  cases ha:atK l s with
  |none=>rw[ha]at h2;cases h2
  |some v=>rw[ha]at h2;have:e.val=.one v:=eh h2;show bO H ok e.val true=bO H ok (.one v) true;rw[this]
def Fi{P:Program}{kt:TypeId}(h:bY P kt=0)(s:List UInt8)(x:AV):∀(n:Nat)(l:List (List UInt8×AC)),atK l s=none->se P kt (.one (.o (.str s))) x (nW n l)=some (false,nW n l)
 |_,[],_=>rfl
 |n,(t,v)::l,ha=>by
  have hts:¬t=s:=λe=>by unfold atK at ha;rw[ad e]at ha;cases ha
  have R8:atK l s=none:=by unfold atK at ha;rwa [ab hts]at ha
  have ih:=Fi h s x (n+1) l R8;have e0:se P kt (.one (.o (.str s))) x (nW n ((t,v)::l))=aG (lM P kt (.one (.o (.str s))) (.one (.o (.str t)))) none λb=>ifE b (ifE (sameKey P kt (.one (.o (.str t))) (.one (.o (.str s)))) (some (true,⟨.one (.o (.str s)),x,n⟩::nW (n+1) l)) none) (aG (se P kt (.one (.o (.str s))) x (nW (n+1) l)) none λr=>some (r.1,⟨.one (.o (.str t)),.one v,n⟩::r.2)):=rfl;rw[e0,Ey h];show ifE (s==t) _ _=_;rw[aF (λh=>hts h.symm),ih];rfl
def CA{P:Program}{H:Hp}{kt:TypeId}{id:Nat}{s:List UInt8}{l:List (List UInt8×AC)}{x:AC}(h:bY P kt=0)(hg:H.get id=some (lA l))(hn:atK l s=none):
  bE P H kt (.one (.o (.mp id))) (.one (.o (.str s))) (.one x)=.val aQ (H.mod id (lA (l++[(s,x)]))):=by
 unfold bE;have Q2:H.get id=some (.oth (.map (nW 0 l) l.length)):=hg;simp only[Q2,EN h];show nd (se P kt (.one (.o (.str s))) (.one x) (nW 0 l)) _ _=_;rw[Fi h s (.one x) 0 l hn];show ah.val aQ (H.mod id (.oth (.map (nW 0 l++[⟨.one (.o (.str s)),.one x,l.length⟩]) (l.length+1))))=_;unfold lA;rw[IY,aI,Nat.zero_add];rfl
def Vp{H:Hp}{id:Nat}{l:List (List UInt8×AC)}(hg:H.get id=some (lA l)):eD H 2 (.one (.o (.mp id)))=.val (.one (.i .i64 (l.length:Int))) H:=by have e:eD H 2 (.one (.o (.mp id)))=gk H (.one (.o (.mp id))):=rfl;rw[e];unfold gk;have Q2:H.get id=some (.oth (.map (nW 0 l) l.length)):=hg;simp only[Q2];rw[IZ];rfl
def yG{k:IntKind}{n:Int}:ofValue (.int k n)=.one (.i k n):=rfl
def wy{b:Bool}:ofValue (.bool b)=.one (.b b):=rfl
def Al{α β:Type}(R:β->α->Prop):List β->List α->Prop
 |[],[]=>True
 |c::cs,x::xs=>R c x/\Al R cs xs
 |_,_=>False
def Al.len{α β:Type}{R:β->α->Prop}:∀{cs:List β}{xs:List α},Al R cs xs->cs.length=xs.length
 |[],[],_=>rfl
 |_::_,_::_,h=>congrArg (·+1) (Al.len h.2)
 |[],_::_,h=>h.elim
 |_::_,[],h=>h.elim
def Al.mono{α β:Type}{R R':β->α->Prop}(hr:∀c x,R c x->R' c x):∀{cs:List β}{xs:List α},Al R cs xs->Al R' cs xs
 |[],[],_=>trivial
 |_::_,_::_,h=>⟨hr _ _ h.1,Al.mono hr h.2⟩
 |[],_::_,h=>h.elim
 |_::_,[],h=>h.elim
def Al.at{α β:Type}{R:β->α->Prop}:∀{cs:List β}{xs:List α}{i:Nat}{x:α},Al R cs xs->xs[i]?=some x->∃c,cs[i]?=some c/\R c x
 |[],[],_,_,_,h=>by simp at h
 |c::cs,y::xs,0,x,h,hx=>by simp only[List.getElem?_cons_zero,tI]at hx;subst hx;exact⟨c,rfl,h.1⟩
 |c::cs,y::xs,i+1,x,h,hx=>by rw[List.getElem?_cons_succ]at hx |-;exact Al.at h.2 hx
 |[],_::_,_,_,h,_=>h.elim
 |_::_,[],_,_,h,_=>h.elim
def Al.app{α β:Type}{R:β->α->Prop}:∀{cs:List β}{xs:List α}{c:β}{x:α},Al R cs xs->R c x->Al R (cs++[c]) (xs++[x])
 |[],[],_,_,_,h=>⟨h,trivial⟩
 |_::_,_::_,_,_,h,k=>⟨h.1,Al.app h.2 k⟩
 |[],_::_,_,_,h,_=>h.elim
 |_::_,[],_,_,h,_=>h.elim
def SlR{α:Type}(R:Hp->List AC->α->Prop)(sz:Nat)(H:Hp)(v:AC)(l:List α):Prop:=
 ∃css:List (List AC),SlC H v sz l.length (css.flatMap id)/\Al (λc x=>c.length=sz/\R H c x) css l
def SlR.fI{α:Type}{R:Hp->List AC->α->Prop}{sz:Nat}{H H':Hp}{v:AC}{l:List α}(h:SlR R sz H v l)(hn:H.nx<=H'.nx)(hg:∀i,i<H.nx->H'.get i=H.get i)(hr:∀c x,R H c x->R H' c x):SlR R sz H' v l:=by obtain⟨css,h1,h2⟩:=h;exact⟨css,h1.fI hn hg,h2.mono λc x h=>⟨h.1,hr c x h.2⟩⟩
def SlR.len{α:Type}{R:Hp->List AC->α->Prop}{sz:Nat}{H:Hp}{v:AC}{l:List α}(h:SlR R sz H v l):eD H 1 (.one v)=.val (.one (.i .i64 (l.length:Int))) H:=let ⟨_,h1,_⟩:=h;h1.len
def SlR.lt{α:Type}{R:Hp->List AC->α->Prop}{sz:Nat}{H:Hp}{v:AC}{l:List α}(h:SlR R sz H v l):ltV (.one v) H.nx:=let ⟨_,h1,_⟩:=h;pD h1
def Ej{sz:Nat}:∀{css:List (List AC)},(∀c∈css,c.length=sz)->(css.flatMap id).length=css.length*sz
 |[],_=>by simp
 |c::css,h=>by rw[List.flatMap_cons,aI,Ej λx hx=>h x (aR _ hx),List.length_cons,pW];have:(id c:List AC).length=sz:=h c (aT ..);omega
def Br{sz:Nat}:∀{css:List (List AC)}{i:Nat}{c:List AC},(∀c∈css,c.length=sz)->css[i]?=some c->((css.flatMap id).drop (i*sz)).take sz=c
 |[],_,_,_,h=>by simp at h
 |d::css,0,c,hl,h=>by simp only[List.getElem?_cons_zero,tI]at h;subst h;have:d.length=sz:=hl d (aT ..);rw[Nat.zero_mul,List.drop_zero,List.flatMap_cons];show(d++_).take sz=d;rw[tw aa,iy aa]
 |d::css,i+1,c,hl,h=>by rw[List.getElem?_cons_succ]at h;have hd:d.length=sz:=hl d (aT ..);rw[List.flatMap_cons,pW];show((d++css.flatMap id).drop (i*sz+sz)).take sz=c;rw[Aj,hd,pU aa,iz];have:i*sz+sz-sz=i*sz:=aa;rw[this];exact Br (λx hx=>hl x (aR _ hx)) h
def Al.lens{α:Type}{R:List AC->α->Prop}{sz:Nat}:∀{css:List (List AC)}{xs:List α},Al (λc x=>c.length=sz/\R c x) css xs->∀c∈css,c.length=sz
 |[],[],_,_,h=>by cases h
 |_::_,_::_,h,c,hc=>by
  rcases List.mem_cons.1 hc with rfl|hc
  ·exact h.1.1
  exact Al.lens h.2 c hc
 |[],_::_,h,_,_=>h.elim
 |_::_,[],h,_,_=>h.elim
def SlR.open{α:Type}{R:Hp->List AC->α->Prop}{sz:Nat}{H:Hp}{v:AC}{l:List α}(h:SlR R sz H v l)(hn:0<l.length):∃id g off cells,v=.o (.sl id g off l.length sz)/\id<H.nx/\rowOf (H.get id) g=some cells /\
  ∀(i:Nat)(x:α),l[i]?=some x->off+i*sz+sz<=cells.length/\∃c,(cells.drop (off+i*sz)).take sz=c/\c.length=sz/\R H c x:=by
 obtain⟨css,h1,h2⟩:=h;obtain⟨id,g,off,e1,hid,hr⟩:=SlC.pos h1 hn;have T3:=hr;obtain⟨cells,h3,h6,h7⟩:=hr;refine⟨id,g,off,cells,e1,hid,h3,λi x hx=>?_⟩;obtain⟨c,hc,S1,hR⟩:=h2.at hx;have B0:i<l.length:=by
  rcases cL i l.length with h|h
  ·exact h
  rw[iY h]at hx;cases hx
 have hmul:(i+1)*sz<=l.length*sz:=lD _ B0;rw[pW]at hmul;obtain⟨cells',k3,k6,k7⟩:=T3.part (i*sz) sz hmul;rw[h3]at k3;cases k3
 refine⟨k6,c,?_,S1,hR⟩;rw[k7];exact Br h2.lens hc
def Sr{h:Hp}{sz:Nat}:lO h sz (.one (.o .nilS))=some (0,[]):=rfl
def mw{P:Program}{h:Hp}{t e:TypeId}{sz by_ n:Nat}{z:Value}{x:AV}{c:List AC}(he:cG P t=some (e,sz))(hb:dB P e=some by_)(hz:aW P e=some z)(Q1:(ofValue z).cells.length=sz)(B2:sz≠0)
  (hs:lO h sz x=some (n,c)) (h1:n<=140737488355328) (h2:n*by_<=140737488355328):bM P h t (.one (.o .nilS)) x=if n=0 then .val (.one (.o .nilS)) h else .val (.one (.o (.sl h.nx 0 0 n sz))) (h.new (.arr c e 0 0)):=by
 have e1:Nat.beq sz 0=false:=by
  cases h:Nat.beq sz 0 with
  |false=>rfl
  |true=>exact absurd (aO h) B2
 have e3:both (!Nat.beq sz 0) (Nat.beq (cA (ofValue z).cells) sz)=true:=by rw[e1,bZ,Q1,cZ];rfl
 have e4:both (Nat.ble n 140737488355328) (Nat.ble (Nat.mul n by_) 140737488355328)=true:=by rw[bU h1];exact bU h2
 unfold bM;simp only[he,hb,hz,nd,e3,aN,hs];show Eng.ifE (Nat.beq n 0) (.val (.one (.o .nilS)) h) (aN (both (Nat.ble n 140737488355328) (Nat.ble (Nat.mul n by_) 140737488355328)) "append - too much" (.val (.one (.o (.sl h.nx 0 0 n sz))) (h.new (.arr c e 0 0))))=_
 rw[e4];by_cases hn:n=0
 ·subst hn;rfl
 have:Nat.beq n 0=false:=by
  cases h:Nat.beq n 0 with
  |false=>rfl
  |true=>exact absurd (aO h) hn
 rw[this,ab hn];rfl
def gA{P:Program}{H:Hp}{t e:TypeId}{sz by_ n:Nat}{z:Value}{v:AC}{cells:List AC}{r:Option Nat}(he:cG P t=some (e,sz))(hb:dB P e=some by_)(hz:aW P e=some z)(Q1:(ofValue z).cells.length=sz)(B2:sz≠0)
  (ho:dA H v e sz n cells r) (c0:List AC) (hc0:c0.length=sz) (hL:n+1<=140737488355328/\(n+1)*by_<=140737488355328):
  ltV (.one v) (H.new (.arr c0 e 0 0)).nx/\∃v' H' r',bM P (H.new (.arr c0 e 0 0)) t (.one v) (.one (.o (.sl H.nx 0 0 1 sz)))=.val (.one v') H' /\
   dA H' v' e sz (n+1) (cells++c0) (some r')/\Fr (λi=>r=some i) H H'/\(r=some r'\/H.nx<=r'):=by
 have O_:=ho.fr ((Fr.refl _:Gr _ _).new (.arr c0 e 0 0)) λ_ _ h=>h;obtain⟨v5,H5,r5,B1,how5,hf5,hr5⟩:=ud (P:=P) (t:=t) (H:=H.new (.arr c0 e 0 0)) (x:=.one (.o (.sl H.nx 0 0 1 sz))) (k:=1) (c:=c0) he hb hz Q1 B2 O_
  (by rw[mo (cells:=c0) (by rw[aC rfl];rfl) aa];simp only[List.drop_zero,Nat.one_mul];rw[iy aa]) aU (by rw[hc0,Nat.one_mul]) hL.1 hL.2
 refine⟨O_.lt,v5,H5,r5,B1,how5,?_,?_⟩
 ·exact((Fr.refl _:Gr _ _).new (.arr c0 e 0 0)).none.then hf5 λq hq=>.inr hq
 rcases hr5 with h|⟨_,h⟩
 ·exact .inl h
 right;rw[h,wx];omega
def vF{tm:PT AV}:ev tm (.const (.pointer none))=.one (.o .nilP):=rfl
def OL{tm:PT AV}:ev tm (.const (.map none))=.one (.o .nilM):=rfl
def OK{tm:PT AV}:ev tm (.const .nilFunc)=.one (.o .wv):=rfl
def wu{H:Hp}{id g off lim:Nat}:kh H (.one (.o (.ptr id g off lim)))=.val (.one (.o (.ptr id g off lim))) H:=rfl
def rm{H:Hp}{id g off lim:Nat}{alt:ah}{f:BF}:cF H 0 .eql f (.one (.o (.ptr id g off lim))) (.one (.o .nilP)) alt=.val (.one (.b false)) H:=rfl
def Mh{H:Hp}{id:Nat}{alt:ah}{f:BF}:cF H 2 .eql f (.one (.o (.mp id))) (.one (.o .nilM)) alt=.val (.one (.b false)) H:=rfl
def Je{H:Hp}{alt:ah}{f:BF}:cF H 0 .eql f (.one (.o .nilP)) (.one (.o .nilP)) alt=alt:=rfl
def Ul{H:Hp}{alt:ah}{f:BF}:cF H 2 .eql f (.one (.o .nilM)) (.one (.o .nilM)) alt=alt:=rfl
def VM(r:Bool)(H:Hp)(alt:ah)(x y:AV):ah:=
 match x,y with
 |.one (.o .nilP),.one (.o .nilP)=>.val (.one (.b r)) H
 |_,_=>alt
def Pu{r:Bool}{H:Hp}{alt:ah}:VM r H alt (.one (.o .nilP)) (.one (.o .nilP))=.val (.one (.b r)) H:=rfl
def Cb{P:Program}{tm:PT AV}{H:Hp}{d:Option Tmp}{t c:TypeId}{e:TypeId}{x y:Operand}{ty:TypeId}{pos:String}{af:Array Edge}{g:Option (Nat×Bool)}(h:P.underlying t=some (.pointer e)):
  aD P tm H ⟨d,.binOp .eql t x y c,ty,pos,af,g⟩=VM true H (cI P tm H ⟨d,.binOp .eql t x y c,ty,pos,af,g⟩) (ev tm x) (ev tm y):=by
 unfold VM;split
 ·rename_i hx hy
  have vx:(ev tm x).val?=some (.pointer none):=by rw[hx];rfl
  have vy:(ev tm y).val?=some (.pointer none):=by rw[hy];rfl
  have dx:cq (ev tm x)=.pointer none:=by unfold cq;rw[vx]
  have dy:cq (ev tm y)=.pointer none:=by unfold cq;rw[vy]
  unfold aD;have e1:((⟨d,.binOp .eql t x y c,ty,pos,af,g⟩:Oper).op.operands.toList.all λx=>(ev tm x).val?.isSome)=true:=by show([x,y].all λx=>(ev tm x).val?.isSome)=true;simp only[List.all_cons,List.all_nil,vx,vy];rfl
  rw[e1];have e2:aH P (execOp (λx=>cq (ev tm x)) ⟨d,.binOp .eql t x y c,ty,pos,af,g⟩)=some (.value (.bool true)):=by
   show aH P (Sem.bind (Sem.bind (eqGuard .eql t x y (cq (ev tm x)) (cq (ev tm y))) λ_=>binOp .eql t (cq (ev tm x)) (cq (ev tm y))) λv=>Sem.pure (Next.value v))=_;rw[dx,dy,bC,bC];have hg:eqGuard .eql t x y (.pointer none) (.pointer none)=pure ():=rfl;rw[hg];show((aH P (Sem.bind (Op.equalIn 10000 t (.pointer none) (.pointer none)) λr=>Sem.pure (Value.bool r)))).bind _=_;have he:aH P (Op.equalIn 10000 t (.pointer none) (.pointer none))=some true:=by unfold Op.equalIn;rw[bV,cY h];rfl
   rw[bC,he];rfl
  rw[e2];rfl
 rfl
def VL(r:Bool)(H:Hp)(alt:ah)(x y:AV):ah:=
 match x,y with
 |.one (.o .nilM),.one (.o .nilM)=>.val (.one (.b r)) H
 |_,_=>alt
def YZ{r:Bool}{H:Hp}{alt:ah}:VL r H alt (.one (.o .nilM)) (.one (.o .nilM))=.val (.one (.b r)) H:=rfl
def MT{P:Program}{tm:PT AV}{H:Hp}{d:Option Tmp}{t c:TypeId}{kt et:TypeId}{x y:Operand}{ty:TypeId}{pos:String}{af:Array Edge}{g:Option (Nat×Bool)}(h:P.underlying t=some (.map kt et)):
  aD P tm H ⟨d,.binOp .eql t x y c,ty,pos,af,g⟩=VL true H (cI P tm H ⟨d,.binOp .eql t x y c,ty,pos,af,g⟩) (ev tm x) (ev tm y):=by
 unfold VL;split
 ·rename_i hx hy
  have vx:(ev tm x).val?=some (.map none):=by rw[hx];rfl
  have vy:(ev tm y).val?=some (.map none):=by rw[hy];rfl
  have dx:cq (ev tm x)=.map none:=by unfold cq;rw[vx]
  have dy:cq (ev tm y)=.map none:=by unfold cq;rw[vy]
  unfold aD;have e1:((⟨d,.binOp .eql t x y c,ty,pos,af,g⟩:Oper).op.operands.toList.all λx=>(ev tm x).val?.isSome)=true:=by show([x,y].all λx=>(ev tm x).val?.isSome)=true;simp only[List.all_cons,List.all_nil,vx,vy];rfl
  rw[e1];have e2:aH P (execOp (λx=>cq (ev tm x)) ⟨d,.binOp .eql t x y c,ty,pos,af,g⟩)=some (.value (.bool true)):=by
   show aH P (Sem.bind (Sem.bind (eqGuard .eql t x y (cq (ev tm x)) (cq (ev tm y))) λ_=>binOp .eql t (cq (ev tm x)) (cq (ev tm y))) λv=>Sem.pure (Next.value v))=_;rw[dx,dy,bC,bC];have hg:eqGuard .eql t x y (.map none) (.map none)=pure ():=rfl;rw[hg];show((aH P (Sem.bind (Op.equalIn 10000 t (.map none) (.map none)) λr=>Sem.pure (Value.bool r)))).bind _=_;have he:aH P (Op.equalIn 10000 t (.map none) (.map none))=some true:=by unfold Op.equalIn;rw[bV,cY h];rfl
   rw[bC,he];rfl
  rw[e2];rfl
 rfl
open Go Go.ChangeShapes Go.WideShapes
def jj(W:World)(xs:List (Option nk)):Prop:=∀(i:Nat)(x:nk),(xs[i]?).join=some x->ua (np xs) W x.cells x.p
def tJ(W:World):Prop:=∃(b:Nat)(c:Array Value)(e:TypeId)(f:Nat×Nat),W.heap[b]?=some (.cells c e f)
def qL(xs ys:List (Option nk)):Sub (np xs) (np (xs++ys)):=by
 intro i g p h;unfold np at h |-;split at h
 ·rename_i hg
  rw[ad hg];by_cases hi:i<xs.length
  ·rw[iw hi];exact h
  rw[iY aa]at h;cases h
 cases h
def zf(xs ys:List (Option nk)):Gr (qM xs) (qM (xs++ys))where
 nx:=by show xs.length<=(xs++ys).length;simp
 get:=λi hi _=>by have hi':i<xs.length:=hi;rw[oT,oT,iw hi']
 log:=⟨[],rfl,λ_ h=>by cases h⟩
def ua.sub{β β':Pl}{W:World}{cells:List AC}{p:Place}(hs:Sub β β')(h:ua β W cells p):ua β' W cells p:=by obtain⟨c,e,f,h1,h2,h3,h4,h5⟩:=h;refine⟨c,e,f,h1,h2,h3,h4,λk x hk hx=>?_⟩;obtain⟨v,hv,hr⟩:=h5 k x hk hx;exact⟨v,hv,CR.mono hs hr⟩
def Fs{W:World}{xs:List (Option nk)}{r:nk}(h:jj W xs)(hr:ua (np xs) W r.cells r.p):jj W (xs++[some r]):=by
 intro i x hx;by_cases hi:i<xs.length
 ·rw[iw hi]at hx;exact ua.sub (qL _ _) (h i x hx)
 rw[lE aa]at hx;have:i-xs.length=0:=by
  rcases sB (i-xs.length)with h|h
  ·exact h
  rw[iY (by simp;omega)]at hx;cases hx
 rw[this]at hx;cases hx
 exact ua.sub (qL _ _) hr
def Du(xs:List (Option nk))(r:nk):np (xs++[some r]) xs.length 0=some r.p:=by unfold np;rw[ad rfl,lE (ai _),ga];rfl
def Dv(xs:List (Option nk))(r:nk):(qM (xs++[some r])).get xs.length=some (.ro r.cells):=by rw[oT,lE (ai _),ga];rfl
def WB{W:World}:jj W []:=λi x h=>by simp at h
section
variable{P:Program}{W:World}{α β:Type}
def Opn(P:Program)(W:World)(sz:Nat)(R:Nat->Hp->List AC->α->Prop)(t:TypeId):Prop:=
 ∀(H:Type)(enc:TypeId×Value->H)(fuel:Nat)(cs:List Value)(d:DataW H)(p:List MemPlace)(B:Nat),
  DataW.trod enc P W 0 (λ_=>true) true fuel t cs=some (d,p)->(∀n∈d.weights P t,n<=B) ->
  ∀xs,jj W xs->∃ys c x,jj W (xs++ys)/\CRs (np (xs++ys)) c cs/\c.length=sz/\R B (qM (xs++ys)) c x
def Np(B:Nat)(_:Hp)(c:List AC)(s:List UInt8):Prop:=c=[.o (.str s)]/\s.length<=B
def Ms(k:IntKind)(_:Nat)(_:Hp)(c:List AC)(z:Int):Prop:=c=[.i k z]/\(Lit.int k z).wf=true
def TM(_:Nat)(_:Hp)(c:List AC)(z:Bool):Prop:=c=[.b z]
def wB{t:TypeId}(ht:P.underlying t=some .string):Opn P W 1 Np t:=by
 intro H enc fuel cs d p B h hw xs hx;obtain⟨s,rfl,e,_⟩:=DataW.trod_string ht h;cases e
 refine⟨[],[.o (.str s.data.toList)],s.data.toList,by rwa [List.append_nil],⟨?_,trivial⟩,rfl,rfl,hw _ (by simp[DataW.weights])⟩;show Value.string s=.string ⟨s.data.toList.toArray⟩;simp
def wA{t:TypeId}{k:IntKind}(ht:P.underlying t=some (.int k)):Opn P W 1 (Ms k) t:=by intro H enc fuel cs d p B h hw xs hx;obtain⟨n,rfl,e,T_⟩:=DataW.trod_int ht h;exact⟨[],[.i k n],n,by rwa [List.append_nil],⟨rfl,trivial⟩,rfl,rfl,T_⟩
def NI{H:Type}(enc:TypeId×Value->H)(P:Program)(W:World)(n:Nat):List TypeId->List Value->List (DataW H×List MemPlace)->Prop
 |[],cs,[]=>cs=[]
 |t::ts,cs,y::ys=>P.cellsOf t<=cs.length/\DataW.trod enc P W 0 (λ_=>true) true n t (cs.take (P.cellsOf t))=some y/\NI enc P W n ts (cs.drop (P.cellsOf t)) ys
 |_,_,_=>False
def XM(P:Program)(W:World)(sz:Nat)(R:Nat->Hp->List AC->α->Prop)(ts:List TypeId):Prop:=
 ∀(H:Type)(enc:TypeId×Value->H)(n:Nat)(cs:List Value)(ys:List (DataW H×List MemPlace))(B:Nat),
  NI enc P W n ts cs ys->(∀n∈DataW.weightsEach P ts (ys.map (·.1)),n<=B) ->
  ∀xs,jj W xs->∃rs c x,jj W (xs++rs)/\CRs (np (xs++rs)) c cs/\c.length=sz/\R B (qM (xs++rs)) c x
def kT{sz:Nat}{R:Nat->Hp->List AC->α->Prop}{t:TypeId}(h:Opn P W sz R t):XM P W sz R [t]:=by
 intro H enc n cs ys B hp hw xs hx;match ys,hp with
 |[y],⟨h1,h2,h3⟩=>
  have h3':cs.drop (P.cellsOf t)=[]:=h3;have e:cs.take (P.cellsOf t)=cs:=by have:=sF (P.cellsOf t) cs;rwa [h3',List.append_nil]at this
  rw[e]at h2;exact h H enc n cs y.1 y.2 B h2 (λn hn=>hw n (by simp[DataW.weightsEach,hn])) xs hx
def mQ(R:Nat->Hp->List AC->α->Prop)(S:Nat->Hp->List AC->β->Prop)(B:Nat)(H:Hp)(c:List AC)(x:α×β):Prop:=∃c1 c2,c=c1++c2/\R B H c1 x.1/\S B H c2 x.2
def mq(R:Nat->Hp->List AC->α->Prop):Prop:=∀B H H' c x,R B H c x->Gr H H'->R B H' c x
def jh:mq Np:=λ_ _ _ _ _ h _=>h
def kI{k:IntKind}:mq (Ms k):=λ_ _ _ _ _ h _=>h
def gz{R:Nat->Hp->List AC->α->Prop}{S:Nat->Hp->List AC->β->Prop}(h:mq R)(k:mq S):mq (mQ R S):=λ_ _ _ _ _⟨c1,c2,e,a,b⟩g=>⟨c1,c2,e,h _ _ _ _ _ a g,k _ _ _ _ _ b g⟩
def eS{sz sz':Nat}{R:Nat->Hp->List AC->α->Prop}{S:Nat->Hp->List AC->β->Prop}{t:TypeId}{ts:List TypeId}(h:Opn P W sz R t)(hR:mq R)(hs:XM P W sz' S ts):XM P W (sz+sz') (mQ R S) (t::ts):=by
 intro H enc n cs ys B hp hw xs hx;match ys,hp with
 |y::ys,⟨h1,h2,h3⟩=>
  obtain⟨r1,c1,x1,a1,a2,a3,a4⟩:=h H enc n _ y.1 y.2 B h2 (λn hn=>hw n (by simp[DataW.weightsEach,hn])) xs hx;obtain⟨r2,c2,x2,b1,b2,b3,b4⟩:=hs H enc n _ ys B h3 (λn hn=>hw n (by simp only[List.map_cons,DataW.weightsEach,iU];exact .inr hn)) (xs++r1) a1;rw[bL]at b1 b2 b4;refine⟨r1++r2,c1++c2,(x1,x2),b1,?_,by rw[aI,a3,b3],c1,c2,rfl,?_,b4⟩
  ·have:=CRs.append (CRs.mono (by rw[<-bL];exact qL _ _) a2) b2;rwa [sF]at this
  exact hR _ _ _ _ _ a4 (by rw[<-bL];exact zf _ _)
def xE(P:Program)(n:Nat):Nat->List Field->Bool
 |o,[]=>o==n
 |o,f::fs=>(f.offset==o)&&(decide (o+P.cellsOf f.type<=n)&&xE P n (o+P.cellsOf f.type) fs)
def BX{H:Type}{enc:TypeId×Value->H}{n:Nat}{cs:List Value}:∀(fs:List Field)(o:Nat)(ys:List (DataW H×List MemPlace)),xE P cs.length o fs=true->ys.length=fs.length ->
  (∀(i:Nat)(f:Field),fs[i]?=some f->DataW.trod enc P W 0 (λ_=>true) true n f.type ((cs.drop f.offset).take (P.cellsOf f.type))=ys[i]?)->NI enc P W n (fs.map (·.type)) (cs.drop o) ys
 |[],o,[],ho,_,_=>by
  have:o=cs.length:=by simpa [xE]using ho
  show cs.drop o=[];rw[this,ct]
 |f::fs,o,y::ys,ho,hl,h=>by
  simp only[xE,aV,jr,bI]at ho;obtain⟨h1,h2,h3⟩:=ho;refine⟨by show P.cellsOf f.type<=_;rw[iW];omega,?_,?_⟩
  ·have:=h 0 f rfl;rwa [h1]at this
  rw[js];exact BX fs _ ys h3 (by simpa using hl) λi g hg=>h (i+1) g hg
 |[],_,_::_,_,hl,_=>by simp at hl
 |_::_,_,[],_,hl,_=>by simp at hl
def ik{sz:Nat}{R:Nat->Hp->List AC->α->Prop}{t:TypeId}{fs:Array Field}{ts:List TypeId}(ht:P.underlying t=some (.struct fs))(ho:xE P (P.cellsOf t) 0 fs.toList=true)(hts:fs.toList.map (·.type)=ts)(h:XM P W sz R ts):Opn P W sz R t:=by
 intro H enc fuel cs d p B hd hw xs hx;obtain⟨ys,n,_,e,hl,B8,hf⟩:=DataW.trod_struct ht hd;cases e
 rw[<-hl]at ho;have hp:=BX (enc:=enc) (W:=W) (n:=n) (cs:=cs) fs.toList 0 ys ho (by rw[B8];simp) (λi f hi=>hf i f (by simpa using hi));rw[hts,List.drop_zero]at hp;refine h H enc n cs ys B hp (λk hk=>hw k ?_) xs hx;simp only[DataW.weights,ht];rwa [hts]
def sw{H:Type}{e:TypeId}{d:DataW H}{n:Nat}(hn:n∈d.weights P e):∀{l:List (DataW H)},d∈l->n∈DataW.weightsAll P e l
 |x::l,h=>by
  rcases List.mem_cons.1 h with rfl|h
  ·simp[DataW.weightsAll,hn]
  simp only[DataW.weightsAll,iU];exact .inr (sw hn h)
def Hu(P:Program)(e:TypeId)(sz:Nat)(R:Nat->Hp->List AC->α->Prop)(B:Nat)(H:Hp)(c:List AC)(l:List α):Prop:=∃u,c=[u]/\SlR (R B) sz H u l/\l.length*P.bytesOf e<=B
def tb{e:TypeId}{sz:Nat}{R:Nat->Hp->List AC->α->Prop}(h:mq R):mq (Hu P e sz R):=λ_ _ _ _ _⟨u,hc,a,b⟩g=>⟨u,hc,a.fI g.nx (λi hi=>g.get i hi aE) λ_ _ k=>h _ _ _ _ _ k g,b⟩
def ES{sz:Nat}{R:Nat->Hp->List AC->α->Prop}{e:TypeId}(hR:mq R)(h:Opn P W sz R e){H:Type}{enc:TypeId×Value->H}{n B:Nat}{a:Addr}{D:Nat->DataW H}{Pl:Nat->List MemPlace}:
  ∀(m:Nat),(∀i,i<m->∃cs',W.cells? 0 (a.add (i*sz)) sz=some cs'/\DataW.trod enc P W 0 (λ_=>true) true n e cs'=some (D i,Pl i))->(∀i,i<m->∀k∈(D i).weights P e,k<=B) ->
  ∀xs,jj W xs->∃ys css l,l.length=m/\jj W (xs++ys)/\Al (λc x=>c.length=sz/\R B (qM (xs++ys)) c x) css l /\
   ∀k,k<m->∃c cs',css[k]?=some c/\W.cells? 0 (a.add (k*sz)) sz=some cs'/\CRs (np (xs++ys)) c cs'
 |0,_,_,xs,hx=>⟨[],[],[],rfl,by rwa [List.append_nil],trivial,λk hk=>absurd hk (Nat.not_lt_zero k)⟩
 |m+1,hc,hw,xs,hx=>by
  obtain⟨ys,css,l,hl,O0,A_,hk⟩:=ES hR h m (λi hi=>hc i aa) (λi hi=>hw i aa) xs hx;obtain⟨cs',h1,h2⟩:=hc m (ba m);obtain⟨zs,c,x,b1,b2,b3,b4⟩:=h H enc n cs' _ _ B h2 (hw m (ba m)) (xs++ys) O0;have hlen:css.length=m:=by rw[A_.len,hl]
  rw[bL]at b1 b2 b4;have V1:Sub (np (xs++ys)) (np (xs++(ys++zs))):=by rw[<-bL];exact qL _ _
  have W0:Gr (qM (xs++ys)) (qM (xs++(ys++zs))):=by rw[<-bL];exact zf _ _
  refine⟨ys++zs,css++[c],l++[x],by simp[hl],b1,Al.app (A_.mono λc x⟨u,v⟩=>⟨u,hR _ _ _ _ _ v W0⟩) ⟨b3,b4⟩,λk B3=>?_⟩;by_cases hkm:k<m
  ·obtain⟨c1,cs1,e1,e2,e3⟩:=hk k hkm;exact⟨c1,cs1,by rw[iw aa];exact e1,e2,CRs.mono V1 e3⟩
  have:k=m:=aa;subst this;exact⟨c,cs',by rw[lE aa,hlen,ga];rfl,h1,b2⟩
def mf{sz:Nat}{R:Nat->Hp->List AC->α->Prop}{t e:TypeId}(ht:P.underlying t=some (.slice e))(B2:P.cellsOf e=sz)(C5:0<sz)(hR:mq R)(hB:tJ W)(h:Opn P W sz R e):
  Opn P W 1 (Hu P e sz R) t:=by
 intro H enc fuel cs d p B hd hw xs hx;rcases Deep.open_slice ht hd with⟨rfl,e1⟩|⟨a,len,cap,m,n,D,Pl,rfl,_,hl,hmax,hm,hxx,M1⟩
 ·exact⟨[],[.o .nilS],[],by rwa [List.append_nil],⟨rfl,trivial⟩,rfl,.o .nilS,rfl,⟨[],⟨by simp,.inl ⟨rfl,rfl⟩⟩,trivial⟩,by simp⟩
 have V9:m=cap:=by rw[hm];rfl
 subst V9;rw[B2]at M1;have V':=congrArg Prod.fst hxx;simp only at V'
 subst V';simp only[DataW.weights,ht]at hw;have hwl:len*P.bytesOf e<=B:=by have:=hw _ (aT ..);simp only[cP,wX]at this;exact aS (lD _ aa) this
 have hwe:∀i,i<len->∀k∈(D i).weights P e,k<=B:=λi hi k hk=>hw k (aR _ (dC _ (sw hk (List.mem_map.2 ⟨i,List.mem_range.2 hi,rfl⟩))));obtain⟨ys,css,l,hll,O0,A_,hk⟩:=ES hR h len (λi hi=>M1 i aa) hwe xs hx;have S1:css.length=len:=by rw[A_.len,hll]
 have hlens:∀c∈css,c.length=sz:=A_.lens;have Q8:(css.flatMap id).length=len*sz:=by rw[Ej hlens,S1]
 rcases sB m with O'|O'
 ·
  subst O';have I6:len=0:=aa;subst I6;obtain⟨b0,c0,e0,f0,hb0⟩:=hB;have M3:css=[]:=List.eq_nil_of_length_eq_zero S1;have I6:l=[]:=List.eq_nil_of_length_eq_zero hll;subst M3 I6;have G0:ua (np (xs++ys)) W [] ⟨b0,0,c0.size,0⟩:=⟨c0,e0,f0,hb0,rfl,Nat.zero_le _,ai _,λk x hk _=>absurd hk (Nat.not_lt_zero k)⟩;have L_:=Fs (r:=⟨[],⟨b0,0,c0.size,0⟩⟩) O0 G0;rw[bL]at L_;have Y6:=Du (xs++ys) ⟨[],⟨b0,0,c0.size,0⟩⟩;have hhl:=Dv (xs++ys) ⟨[],⟨b0,0,c0.size,0⟩⟩;rw[bL]at Y6 hhl;refine⟨ys++[some ⟨[],⟨b0,0,c0.size,0⟩⟩],[.o (.sl (xs++ys).length 0 0 0 sz)],[],L_,⟨⟨_,0,a,Y6,?_,ai _,rfl,.inl rfl⟩,trivial⟩,rfl,_,rfl,⟨[],⟨by simp,.inr ⟨_,0,0,rfl,?_,[],?_,?_,by simp⟩⟩,trivial⟩,by simp⟩
  ·show 0+0*sz<=0;omega
  ·show(xs++ys).length<(xs++(ys++[_])).length;simp only[aI,List.length_cons,List.length_nil];omega
  ·rw[hhl];rfl
  simp
 
 have hblk:a.spot=none/\∃c e f,W.heap[a.block]?=some (.cells c e f):=by
  obtain⟨cs',h1,_⟩:=M1 0 O';obtain⟨_,h2,h3⟩:=World.cells?_some h1;have h4:=h3 0 C5;rw[Nat.zero_mul,Addr.add,ad rfl,Addr.add,ad rfl,aA aa]at h4;unfold World.cell? at h4;split at h4
  ·rename_i c e f hh
   split at h4
   ·cases h4
   rename_i hs
   exact⟨by cases hq:a.spot with|none=>rfl|some q=>rw[hq]at hs;exact absurd rfl hs,c,e,f,hh⟩
  cases h4
 obtain⟨j8,c,e',f',hc⟩:=hblk;obtain⟨b,o,sp⟩:=a;simp only at j8 hc
 subst j8;have addA:∀k:Nat,(⟨b,o,none⟩:Addr).add k=⟨b,o+k,none⟩:=λk=>by
  unfold Addr.add;split
  ·rename_i h0;rw[h0];rfl
  rfl
 have at_:∀k j,k<m->j<sz->∀cs',W.cells? 0 ((⟨b,o,none⟩:Addr).add (k*sz)) sz=some cs'->c[o+(k*sz+j)]?=cs'[j]?:=λk j hk hj cs' h1=>by obtain⟨_,h2,h3⟩:=World.cells?_some h1;have h4:=h3 j hj;rw[Deep.add_add,addA]at h4;rw[<-h4];unfold World.cell?;simp only[hc];rfl
 have hsize:o+m*sz<=c.size:=by
  obtain⟨cs',h1,_⟩:=M1 (m-1) aa;have h2:=(World.cells?_some h1).2.1;have h3:=at_ (m-1) (sz-1) aa aa cs' h1;rw[aA aa]at h3;have h4:=(Array.getElem?_eq_some_iff.1 h3).1;have h5:(m-1)*sz+sz=m*sz:=by rw[<-pW];congr 1;omega
  omega
 have hlm:len*sz<=m*sz:=lD _ hl;have G0:ua (np (xs++ys)) W (css.flatMap id) ⟨b,o,c.size,len*sz⟩:=by
  refine⟨c,e',f',hc,rfl,?_,?_,λk x B3 V6=>?_⟩
  ·show o+len*sz<=c.size;omega
  ·show len*sz<=_;omega
  have hk3:k<len*sz:=B3;have hq:k/sz<len:=(Nat.div_lt_iff_lt_mul C5).2 hk3;have hr:k%sz<sz:=Nat.mod_lt _ C5;have z6:k=k/sz*sz+k%sz:=by have:=Nat.div_add_mod k sz;rw[Ac]at this;omega
  obtain⟨c1,cs1,g1,g2,g3⟩:=hk (k/sz) hq;have g4:=at_ (k/sz) (k%sz) aa hr cs1 g2;have g5:=Br hlens g1;have K9:cs1.length=sz:=(World.cells?_some g2).2.1;have g6:c1[k%sz]?=some x:=by rw[<-g5,mW,ad hr,iV,<-z6];exact V6
  rw[<-z6,aA aa]at g4;exact⟨_,g4,CRs.get g3 _ _ _ g6 (aA aa)⟩
 have L_:=Fs (r:=⟨css.flatMap id,⟨b,o,c.size,len*sz⟩⟩) O0 G0;have Y6:=Du (xs++ys) ⟨css.flatMap id,⟨b,o,c.size,len*sz⟩⟩;have hhl:=Dv (xs++ys) ⟨css.flatMap id,⟨b,o,c.size,len*sz⟩⟩;rw[bL]at L_ Y6 hhl;have W0:Gr (qM (xs++ys)) (qM (xs++(ys++[some ⟨css.flatMap id,⟨b,o,c.size,len*sz⟩⟩]))):=by rw[<-bL];exact zf _ _
 refine⟨ys++[some ⟨css.flatMap id,⟨b,o,c.size,len*sz⟩⟩],[.o (.sl (xs++ys).length 0 0 len sz)],l,L_,⟨⟨_,m,_,Y6,?_,hl,rfl,.inr ⟨rfl,?_⟩⟩,trivial⟩,rfl,_,rfl,
  ⟨css,⟨by rw[hll];exact Q8,.inr ⟨_,0,0,by rw[hll],?_,css.flatMap id,?_,?_,?_⟩⟩,A_.mono λc x⟨u,v⟩=>⟨u,hR _ _ _ _ _ v W0⟩⟩,by rw[hll];exact hwl⟩
 ·show 0+len*sz<=len*sz;omega
 ·show o+0+m*sz<=c.size;omega
 ·show(xs++ys).length<(xs++(ys++[_])).length;simp only[aI,List.length_cons,List.length_nil];omega
 ·rw[hhl];rfl
 ·rw[hll];omega
 rw[List.drop_zero,hll,iy aa]
def ze{f:α->List AC}:∀{css:List (List AC)}{l:List α},Al (λc x=>c=f x) css l->css.flatMap id=l.flatMap f
 |[],[],_=>rfl
 |c::css,x::l,h=>by rw[List.flatMap_cons,List.flatMap_cons,ze h.2,<-h.1];rfl
 |[],_::_,h=>h.elim
 |_::_,[],h=>h.elim
def Al.all{γ:Type}{R:γ->α->Prop}{Q:α->Prop}(hq:∀c x,R c x->Q x):∀{cs:List γ}{l:List α},Al R cs l->∀x∈l,Q x
 |[],[],_,x,hx=>by cases hx
 |c::cs,y::l,h,x,hx=>by
  rcases List.mem_cons.1 hx with rfl|hx
  ·exact hq c _ h.1
  exact Al.all hq h.2 x hx
 |[],_::_,h,_,_=>h.elim
 |_::_,[],h,_,_=>h.elim
end
def qB:=zDm @lj @SJ @NK @SV @ZY @acd @Uy @aah @aai @aag @Jo (zDm @List.map_cons.{0,0} @List.map_nil.{0,0} @List.getElem?_cons_zero.{0} @List.getElem?_cons_succ.{0} @Option.elim_some.{1,0} @Option.map_some.{0,0} @Option.bind_some.{0,0} @EV @IF @On @decide_eq_true_eq (zDm @decide_true @decide_false @Xv @JI @Lb @Jh @Ju @JP @aap @yT @yx (zDm @Nat.add_one_sub_one @Nat.one_mul @Vs @Vr @JN @ab5 @aab @Option.map_none.{0,0} @Nat.zero_lt_succ @Nat.le_add_left @FQ (zDm @xg @NO @Ic @SN @NN @Ih @SM @SR @uW @uX @Ig (zDm @Au @ya @xZ @Av @uY @Ie @tQ @SQ @Dk @NL @Ba (zDm @DU @Up @OI @Uq @OM @OJ @aan @Jf @ON @ak @bq (zDm @Fg @aM @Nat.blt_eq @true_and @and_true @if_true.{1} @if_false.{1} @Bool.false_eq_true @Bool.true_eq_false @not_false_eq_true @Pj (zDm @xB @zy @Pk @wx @Py @aC @bw @aq @aB @aam @ab7 (zDm @ab6 @aad @jW @yo @cH @zu @zv @PX @vH @Bool.not_eq_true' @decide_eq_false_iff_not (zDm @ne_eq.{1} @DH @DG @EM @EL @List.length_cons.{0} @List.length_nil.{0} @Nat.zero_add @Nat.add_zero @Nat.le_refl @Nat.zero_le (zDm @AP @yi @yh @vw @List.cons_append.{0} @List.nil_append.{0} @List.append_nil.{0} @ab8 @aaf @ab9 @UH (zDm @UG @UF @UE @UC @UJ @UB @UK @UI @WY @WZ @List.take_succ_cons.{0} (zDm @List.take_zero.{0} @List.drop_succ_cons.{0} @List.drop_zero.{0} @List.take_nil.{0} @List.drop_nil.{0} @List.headD_cons.{0} @Bool.not_true @Bool.not_false @Nat.lt_add_one @Oi @aaa (zDm @Is @Om @sJ @zd @zb @za @Ds @Jl @Ei @Nat.zero_mul @BW (zDm @yI @Dl @uZ @JO @Lo @VA @wu @DK @yG @wy @vF (zB3 @OL @OK))))))))))))))))
def vA(c:List AC):List Nat:=c.flatMap λa=>(AV.one a).ids
def IP:vA []=[]:=rfl
def DI(a:AC)(c:List AC):vA (a::c)=(AV.one a).ids++vA c:=rfl
section
variable{α:Type}
def FrR(R:Hp->List AC->α->Prop):Prop:=∀(Y:Nat->Prop)(H H':Hp)(c:List AC)(x:α),R H c x->Fr Y H H'->(∀id∈vA c,¬Y id)->R H' c x
def LtR(R:Hp->List AC->α->Prop):Prop:=∀(H:Hp)(c:List AC)(x:α),R H c x->∀id∈vA c,id<H.nx
structure gh(R:Hp->List AC->α->Prop)(sz:Nat)(e:TypeId)(X:Nat->Prop)(H:Hp)(v:AC)(l:List α)(r:Option Nat):Prop where
 row:∀q,r=some q->¬X q/\q<H.nx
 own:∃css:List (List AC),dA H v e sz l.length (css.flatMap id) r/\Al (λc x=>c.length=sz/\R H c x/\∀id∈vA c,¬X id/\some id≠r) css l
def dA.rlt{H:Hp}{v:AC}{e:TypeId}{sz n:Nat}{cells:List AC}{q:Nat}(h:dA H v e sz n cells (some q)):q<H.nx:=by
 rcases h with⟨_,_,_,e⟩|⟨id,lo,gen,e,_,_,_,_,hl⟩
 ·cases e
 cases e;exact hl
def gh.nil{R:Hp->List AC->α->Prop}{sz:Nat}{e:TypeId}{X:Nat->Prop}{H:Hp}:gh R sz e X H (.o .nilS) [] none where
 row:=λq hq=>by cases hq
 own:=⟨[],.inl ⟨rfl,rfl,rfl,rfl⟩,trivial⟩
def gh.fr{R:Hp->List AC->α->Prop}(hR:FrR R)(hl:LtR R){sz:Nat}{e:TypeId}{X Y:Nat->Prop}{H H':Hp}{v:AC}{l:List α}{r:Option Nat}(h:gh R sz e X H v l r)(hf:Fr Y H H')(hy:∀i,Y i->X i\/H.nx<=i):gh R sz e X H' v l r where
 row:=λq hq=>⟨(h.row q hq).1,ax (h.row q hq).2 hf.nx⟩
 own:=by
  obtain⟨css,a,b⟩:=h.own;refine⟨css,a.fr hf λi hi hyi=>?_,b.mono λc x⟨h1,h2,h3⟩=>⟨h1,hR _ _ _ _ _ h2 hf λi hi hyi=>?_,h3⟩⟩
  ·have:=h.row i hi;rcases hy i hyi with h|h
   ·exact this.1 h
   omega
  have h4:=hl _ _ _ h2 i hi;rcases hy i hyi with h|h
  ·exact(h3 i hi).1 h
  omega
def gh.gr{R:Hp->List AC->α->Prop}(hR:FrR R)(hl:LtR R){sz:Nat}{e:TypeId}{X:Nat->Prop}{H H':Hp}{v:AC}{l:List α}{r:Option Nat}(h:gh R sz e X H v l r)(hf:Gr H H'):gh R sz e X H' v l r:=h.fr hR hl hf λ_ h=>h.elim
def gh.abT{R:Hp->List AC->α->Prop}(hl:LtR R){sz:Nat}{e:TypeId}{X:Nat->Prop}{H:Hp}{v:AC}{l:List α}{r:Option Nat}(h:gh R sz e X H v l r):gh R sz e (λi=>X i\/H.nx<=i) H v l r where
 row:=λq hq=>⟨λhh=>hh.elim (h.row q hq).1 λhh=>by have:=(h.row q hq).2;omega,(h.row q hq).2⟩
 own:=by obtain⟨css,a,b⟩:=h.own;exact⟨css,a,b.mono λc x⟨h1,h2,h3⟩=>⟨h1,h2,λi hi=>⟨λhh=>hh.elim (h3 i hi).1 λhh=>by have:=hl _ _ _ h2 i hi;omega,(h3 i hi).2⟩⟩⟩
def gh.less{R:Hp->List AC->α->Prop}{sz:Nat}{e:TypeId}{X X':Nat->Prop}{H:Hp}{v:AC}{l:List α}{r:Option Nat}(h:gh R sz e X H v l r)(hx:∀i,X' i->X i):gh R sz e X' H v l r where
 row:=λq hq=>⟨λhh=>(h.row q hq).1 (hx _ hh),(h.row q hq).2⟩
 own:=by obtain⟨css,a,b⟩:=h.own;exact⟨css,a,b.mono λc x⟨h1,h2,h3⟩=>⟨h1,h2,λi hi=>⟨λhh=>(h3 i hi).1 (hx _ hh),(h3 i hi).2⟩⟩⟩
def gh.slr{R:Hp->List AC->α->Prop}{sz:Nat}{e:TypeId}{X:Nat->Prop}{H:Hp}{v:AC}{l:List α}{r:Option Nat}(h:gh R sz e X H v l r):SlR R sz H v l:=by obtain⟨css,a,b⟩:=h.own;exact⟨css,a.slc,b.mono λc x⟨h1,h2,_⟩=>⟨h1,h2⟩⟩
def gh.lt{R:Hp->List AC->α->Prop}{sz:Nat}{e:TypeId}{X:Nat->Prop}{H:Hp}{v:AC}{l:List α}{r:Option Nat}(h:gh R sz e X H v l r):ltV (.one v) H.nx:=by obtain⟨css,a,b⟩:=h.own;exact a.lt
def gh.push{P:Program}{R:Hp->List AC->α->Prop}(hR:FrR R)(hl:LtR R){H:Hp}{t e:TypeId}{sz by_:Nat}{z:Value}{X:Nat->Prop}{v:AC}{l:List α}{r:Option Nat}(he:cG P t=some (e,sz))(hb:dB P e=some by_)(hz:aW P e=some z)(Q1:(ofValue z).cells.length=sz)(B2:sz≠0)
  (ho:gh R sz e X H v l r) (hX:∀i,X i->i<H.nx) {c0:List AC} {x:α} (hc0:c0.length=sz) (hx:R H c0 x) (hi:∀id∈vA c0,¬X id/\some id≠r) (hL:l.length+1<=140737488355328/\(l.length+1)*by_<=140737488355328):
  ltV (.one v) (H.new (.arr c0 e 0 0)).nx/\∃v' H' r',bM P (H.new (.arr c0 e 0 0)) t (.one v) (.one (.o (.sl H.nx 0 0 1 sz)))=.val (.one v') H' /\
   gh R sz e X H' v' (l++[x]) (some r')/\Fr (λi=>r=some i) H H'/\(r=some r'\/H.nx<=r'):=by
 obtain⟨css,a,b⟩:=ho.own;obtain⟨B0,v',H',r',B1,D4,hf,hr⟩:=gA he hb hz Q1 B2 a c0 hc0 hL;have kR:∀c y,c.length=sz/\R H c y/\(∀id∈vA c,¬X id/\some id≠r)->c.length=sz/\R H' c y/\∀id∈vA c,¬X id/\some id≠some r':=λc y⟨h1,h2,h3⟩=>by
  refine⟨h1,hR _ _ _ _ _ h2 hf λi hi e=>(h3 i hi).2 e.symm,λi hi=>⟨(h3 i hi).1,λe=>?_⟩⟩;cases e
  rcases hr with h|h
  ·exact(h3 _ hi).2 h.symm
  have:=hl _ _ _ h2 _ hi;omega
 refine⟨B0,v',H',r',B1,⟨λq hq=>?_,css++[c0],?_,Al.app (b.mono kR) (kR _ _ ⟨hc0,hx,hi⟩)⟩,hf,hr⟩
 ·cases hq
  refine⟨λhh=>?_,D4.rlt⟩;rcases hr with h|h
  ·exact(ho.row _ h).1 hh
  have:=hX _ hh;omega
 rw[iX,aI];have e1:([c0]:List (List AC)).flatMap id=c0:=by simp
 rw[e1];exact D4
end
def pE{P:Program}{H:Hp}{t e:TypeId}{sz by_:Nat}{z:Value}{k k':IntKind}{n:Nat}(he:cG P t=some (e,sz))(hb:dB P e=some by_)(hz:aW P e=some z)(Q1:(ofValue z).cells.length=sz)(hn:n<=1073741824/\n*by_<=140737488355328):
  dY P H t (.one (.i k (n:Int))) (.one (.i k' (n:Int)))=.val (.one (.o (.sl H.nx 0 0 n sz))) (H.new (.arr (nq (ofValue z).cells n) e 0 0)):=by
 have h1:Nat.ble n n=true:=bU (ai _);have h2:Nat.ble n 1073741824=true:=bU hn.1;have h3:Nat.ble (Nat.mul n by_) 140737488355328=true:=bU hn.2;have h4:Nat.beq (cA (ofValue z).cells) sz=true:=by rw[bZ,Q1];exact cZ _
 unfold dY;rw[he];show nd (dB P e) _ _=_;rw[hb];show nd (aW P e) _ _=_;rw[hz];show aN (both (Nat.ble n n) (both (Nat.ble n 1073741824) (both (Nat.ble (Nat.mul n by_) 140737488355328) (Nat.beq (cA (ofValue z).cells) sz)))) _ _=_;rw[h1,h2,h3,h4];rfl
def wF{a:AC}:∀(n:Nat),nq [a] n=List.replicate n a
 |0=>rfl
 |n+1=>by show qu [a] (nq [a] n)=_;rw[wF n];rfl
def CY{H:Hp}{id g off len sz:Nat}{x:Int}(h0:0<=x)(h:x<len):dz H sz (.one (.o (.sl id g off len sz))) (.one (.i .i64 x))=.val (.one (.o (.ptr id g (off+x.toNat*sz) sz))) H:=by have h1:=ic (H:=H) (id:=id) (g:=g) (off:=off) (len:=len) (sz:=sz) (i:=x.toNat) aa;have h2:((x.toNat:Nat):Int)=x:=aa;rw[h2]at h1;exact h1
def Gz(bs:List Bool)(i:Nat):((bs.map AC.b).drop i).headD (.b false)=.b (bs.getD i false):=by
 rw[<-List.map_drop,bt];have:(bs.drop i)[0]?=bs[i]?:=by rw[iV];rfl
 rw[<-this];cases bs.drop i with
 |nil=>rfl
 |cons a l=>rfl
def setRow{α:Type}(f:α->AC)(l:List α)(i:Nat)(a:α)(h:i<l.length):(l.map f).take i++f a::(l.map f).drop (i+1)=(l.set i a).map f:=by rw[List.set_eq_take_append_cons_drop,ad h,List.map_append,List.map_cons,List.map_take,List.map_drop]
def Mk(bs:List Bool)(n:Nat)(S:List Int):Prop:=bs.length=n/\∀j:Nat,j<n->bs.getD j false=S.any λx=>x==(j:Int)
def Mk.nil(n:Nat):Mk (List.replicate n false) n []:=⟨uP,λj hj=>by rw[bt,List.getElem?_replicate,ad hj];rfl⟩
def Mk.set{bs:List Bool}{n:Nat}{S:List Int}(h:Mk bs n S){x:Int}(h0:0<=x)(hx:x<n):Mk (bs.set x.toNat true) n (S++[x]):=by
 refine⟨by rw[fl];exact h.1,λj hj=>?_⟩;have hj2:=h.2 j hj;rw[bt]at hj2 |-;rw[List.any_append,<-hj2];by_cases e:x.toNat=j
 ·have e2:(x==(j:Int))=true:=by rw[jr];omega
  rw[HO,ad e,ad (by rw[h.1];omega)];simp[e2]
 have e2:(x==(j:Int))=false:=aF aa;rw[HL e];simp[e2]
def Mk.at{bs:List Bool}{n:Nat}{S:List Int}(h:Mk bs n S){x:Int}(h0:0<=x)(hx:x<n):bs.getD x.toNat false=S.any λy=>y==x:=by rw[h.2 _ aa];have h2:((x.toNat:Nat):Int)=x:=aa;rw[h2]
def Rh{P:Program}{W:World}{r:Reach}{base:Nat}{u:TypeId}{a:Addr}{l c:Nat}(h:Cell.okWide P W r base u (.slice (some a) l c)):tJ W:=by
 have h2:Cell.ok P W r base u (.slice (some a) l c):=by
  unfold Cell.okWide at h;cases hu:P.underlying u with
  |none=>rw[hu]at h;exact h
  |some d=>rw[hu]at h;cases d<;>exact h
 unfold Cell.ok at h2;cases hu:P.underlying u with
 |none=>rw[hu]at h2;exact h2.elim
 |some d=>
  rw[hu]at h2;cases d
  case slice e=>
   obtain⟨_,_,_,_,row,cells,hshape,_⟩:=h2;unfold World.shape? at hshape;split at hshape
   ·rename_i c e f hh;exact⟨_,c,e,f,hh⟩
   cases hshape
  all_goals exact h2.elim
section
variable{P:Program}{W:World}{α β:Type}
def abP(cs:List Value):Prop:=∀v∈cs,∀a l c,v≠.slice (some a) l c
def Ib(P:Program)(W:World)(sz:Nat)(R:Nat->Hp->List AC->α->Prop)(t:TypeId):Prop:=
 ∀(H:Type)(enc:TypeId×Value->H)(fuel:Nat)(cs:List Value)(d:DataW H)(p:List MemPlace)(B:Nat),
  DataW.trod enc P W 0 (λ_=>true) true fuel t cs=some (d,p)->(∀n∈d.weights P t,n<=B)->abP cs ->
  ∀xs,jj W xs->∃ys c x,jj W (xs++ys)/\CRs (np (xs++ys)) c cs/\c.length=sz/\R B (qM (xs++ys)) c x
def Opn.z{sz:Nat}{R:Nat->Hp->List AC->α->Prop}{t:TypeId}(h:Opn P W sz R t):Ib P W sz R t:=λH enc fuel cs d p B hd hw _ xs hx=>h H enc fuel cs d p B hd hw xs hx
def pK{sz:Nat}{R:Nat->Hp->List AC->α->Prop}{t e:TypeId}(ht:P.underlying t=some (.slice e)):Ib P W 1 (Hu P e sz R) t:=by
 intro H enc fuel cs d p B hd hw hz xs hx;rcases Deep.open_slice ht hd with⟨rfl,e1⟩|⟨a,len,cap,m,n,D,Pl,rfl,_⟩
 ·exact⟨[],[.o .nilS],[],by rwa [List.append_nil],⟨rfl,trivial⟩,rfl,.o .nilS,rfl,⟨[],⟨by simp,.inl ⟨rfl,rfl⟩⟩,trivial⟩,by simp⟩
 exact absurd rfl (hz _ (List.mem_singleton.2 rfl) a len cap)
def NH(P:Program)(W:World)(sz:Nat)(R:Nat->Hp->List AC->α->Prop)(ts:List TypeId):Prop:=
 ∀(H:Type)(enc:TypeId×Value->H)(n:Nat)(cs:List Value)(ys:List (DataW H×List MemPlace))(B:Nat),
  NI enc P W n ts cs ys->(∀n∈DataW.weightsEach P ts (ys.map (·.1)),n<=B)->abP cs ->
  ∀xs,jj W xs->∃rs c x,jj W (xs++rs)/\CRs (np (xs++rs)) c cs/\c.length=sz/\R B (qM (xs++rs)) c x
def ER{sz:Nat}{R:Nat->Hp->List AC->α->Prop}{t:TypeId}(h:Ib P W sz R t):NH P W sz R [t]:=by
 intro H enc n cs ys B hp hw hz xs hx;match ys,hp with
 |[y],⟨h1,h2,h3⟩=>
  have h3':cs.drop (P.cellsOf t)=[]:=h3;have e:cs.take (P.cellsOf t)=cs:=by have:=sF (P.cellsOf t) cs;rwa [h3',List.append_nil]at this
  rw[e]at h2;exact h H enc n cs y.1 y.2 B h2 (λn hn=>hw n (by simp[DataW.weightsEach,hn])) hz xs hx
def uE{sz sz':Nat}{R:Nat->Hp->List AC->α->Prop}{S:Nat->Hp->List AC->β->Prop}{t:TypeId}{ts:List TypeId}(h:Ib P W sz R t)(hR:mq R)(hs:NH P W sz' S ts):NH P W (sz+sz') (mQ R S) (t::ts):=by
 intro H enc n cs ys B hp hw hz xs hx;match ys,hp with
 |y::ys,⟨h1,h2,h3⟩=>
  obtain⟨r1,c1,x1,a1,a2,a3,a4⟩:=h H enc n _ y.1 y.2 B h2 (λn hn=>hw n (by simp[DataW.weightsEach,hn])) (λv hv=>hz v (List.mem_of_mem_take hv)) xs hx;obtain⟨r2,c2,x2,b1,b2,b3,b4⟩:=hs H enc n _ ys B h3 (λn hn=>hw n (by simp only[List.map_cons,DataW.weightsEach,iU];exact .inr hn)) (λv hv=>hz v (HT hv)) (xs++r1) a1;rw[bL]at b1 b2 b4;refine⟨r1++r2,c1++c2,(x1,x2),b1,?_,by rw[aI,a3,b3],c1,c2,rfl,?_,b4⟩
  ·have:=CRs.append (CRs.mono (by rw[<-bL];exact qL _ _) a2) b2;rwa [sF]at this
  exact hR _ _ _ _ _ a4 (by rw[<-bL];exact zf _ _)
def yH{sz:Nat}{R:Nat->Hp->List AC->α->Prop}{t:TypeId}{fs:Array Field}{ts:List TypeId}(ht:P.underlying t=some (.struct fs))(ho:xE P (P.cellsOf t) 0 fs.toList=true)(hts:fs.toList.map (·.type)=ts)(h:NH P W sz R ts):Ib P W sz R t:=by
 intro H enc fuel cs d p B hd hw hz xs hx;obtain⟨ys,n,_,e,hl,B8,hf⟩:=DataW.trod_struct ht hd;cases e
 rw[<-hl]at ho;have hp:=BX (enc:=enc) (W:=W) (n:=n) (cs:=cs) fs.toList 0 ys ho (by rw[B8];simp) (λi f hi=>hf i f (by simpa using hi));rw[hts,List.drop_zero]at hp;refine h H enc n cs ys B hp (λk hk=>hw k ?_) hz xs hx;simp only[DataW.weights,ht];rwa [hts]
def VV{sz:Nat}{R:Nat->Hp->List AC->α->Prop}{t:TypeId}{fs:Array Field}{v:Value}{base B:Nat}{H:Type}{enc:TypeId×Value->H}{d:DataW H}{p:List MemPlace}(ht:P.underlying t=some (.struct fs))(hO:tJ W->Opn P W sz R t)(hZ:Ib P W sz R t)
  (hval:Value.okWide P W .any base t v) (hd:DataW.Trod enc P W 0 (λ_=>true) true t v d p) (hw:∀n∈d.weights P t,n<=B) (xs:List (Option nk)) (hx:jj W xs):
  ∃ys c l,jj W (xs++ys)/\AR (np (xs++ys)) (.agg c) v/\c.length=sz/\R B (qM (xs++ys)) c l:=by
 obtain⟨fuel,hf⟩:=hd;have hval':∃cs,v=.agg cs/\cs.size=P.cellsOf t/\Row.okWide P W .any base t cs:=by simp only[Value.okWide,ht]at hval;exact hval
 obtain⟨cs,rfl,B2,G0⟩:=hval';have Z7:(Value.agg cs).cells.toList=cs.toList:=rfl;rw[Z7]at hf;by_cases hB:tJ W
 ·obtain⟨ys,c,l,h1,h2,h3,h4⟩:=hO hB H enc fuel _ d p B hf hw xs hx;exact⟨ys,c,l,h1,⟨_,h2,by simp⟩,h3,h4⟩
 obtain⟨ys,c,l,h1,h2,h3,h4⟩:=hZ H enc fuel _ d p B hf hw (λw hw a l c e=>hB (by obtain⟨i,hi⟩:=List.mem_iff_getElem?.1 hw;obtain⟨ts,_,_,hr⟩:=G0;obtain⟨u,_,hu⟩:=hr i w (by rw[<-oo];exact hi);rw[e]at hu;exact Rh hu)) xs hx
 exact⟨ys,c,l,h1,⟨_,h2,by simp⟩,h3,h4⟩
def VQ{t:TypeId}(ht:P.underlying t=some .bool):Opn P W 1 TM t:=by intro H enc fuel cs d p B h hw xs hx;obtain⟨b,rfl,e,_⟩:=DataW.trod_bool ht h;exact⟨[],[.b b],b,by rwa [List.append_nil],⟨rfl,trivial⟩,rfl,rfl⟩
def VD:mq TM:=λ_ _ _ _ _ h _=>h
end
def oY{P:Program}{tm:PT AV}{H:Hp}{o:Oper}{v:Value}(hx:(o.op.operands.toList.all λx=>(ev tm x).val?.isSome)=true)(he:aH P (execOp (λx=>cq (ev tm x)) o)=some (.value v))(E0:okV v=true):
  aD P tm H o=.val (ofValue v) H:=by
 unfold aD;rw[hx,he];show aN true _ (aN (okV v) _ _)=_;rw[E0];rfl
def YH(f:IntKind->Int->AC)(H:Hp)(alt:ah)(x:AV):ah:=match x with|.one (.i k a)=>.val (.one (f k a)) H|_=>alt
def ux(p:Int->Int->Prop)[∀a b,Decidable (p a b)](f:IntKind->Int->Int->AC)(H:Hp)(alt:ah)(x y:AV):ah:=
 match x,y with|.one (.i k a),.one (.i k' b)=>if k=k'/\p a b then .val (.one (f k a b)) H else alt|_,_=>alt
def GG{p:Int->Int->Prop}[∀a b,Decidable (p a b)]{f:IntKind->Int->Int->AC}{H:Hp}{alt:ah}{k:IntKind}{a b:Int}(h:p a b):ux p f H alt (.one (.i k a)) (.one (.i k b))=.val (.one (f k a b)) H:=ad ⟨rfl,h⟩
variable{P:Program}{tm:PT AV}{H:Hp}{d:Option Tmp}{ty:TypeId}{pos:String}{af:Array Edge}{g:Option (Nat×Bool)}
def pT{x:AV}{k:IntKind}{a:Int}(h:x=.one (.i k a)):cq x=.int k a:=by subst h;rfl
def RU{t c:TypeId}{x y:Operand}:aD P tm H ⟨d,.binOp .quo t x y c,ty,pos,af,g⟩=ux (λ_ b=>b≠0) (λk a b=>.i k (k.wrap (a.tdiv b))) H (cI P tm H ⟨d,.binOp .quo t x y c,ty,pos,af,g⟩) (ev tm x) (ev tm y):=by
 unfold ux;split
 ·rename_i k a k' b hx hy
  by_cases h:k=k'/\b≠0
  ·rw[ad h];obtain⟨rfl,hb⟩:=h;refine oY (v:=.int k (k.wrap (a.tdiv b))) ?_ ?_ rfl
   ·show([x,y].all λx=>(ev tm x).val?.isSome)=true;simp only[List.all_cons,List.all_nil,hx,hy];rfl
   show aH P (Sem.bind (Sem.bind (eqGuard .quo t x y (cq (ev tm x)) (cq (ev tm y))) λ_=>binOp .quo t (cq (ev tm x)) (cq (ev tm y))) λv=>Sem.pure (Next.value v))=_;rw[pT hx,pT hy];have e:binOp .quo t (.int k a) (.int k b)=pure (.int k (k.wrap (a.tdiv b))):=by show(if k≠k then _ else Op.intDiv .quo k a b)=_;rw[ab (by simp)];unfold Op.intDiv;rw[ab hb]
   show aH P (Sem.bind (binOp .quo t (.int k a) (.int k b)) λv=>Sem.pure (Next.value v))=_;rw[e];rfl
  rw[ab h];rfl
 rfl
def RV{t c:TypeId}{x y:Operand}:aD P tm H ⟨d,.binOp .rem t x y c,ty,pos,af,g⟩=ux (λ_ b=>b≠0) (λk a b=>.i k (a.tmod b)) H (cI P tm H ⟨d,.binOp .rem t x y c,ty,pos,af,g⟩) (ev tm x) (ev tm y):=by
 unfold ux;split
 ·rename_i k a k' b hx hy
  by_cases h:k=k'/\b≠0
  ·rw[ad h];obtain⟨rfl,hb⟩:=h;refine oY (v:=.int k (a.tmod b)) ?_ ?_ rfl
   ·show([x,y].all λx=>(ev tm x).val?.isSome)=true;simp only[List.all_cons,List.all_nil,hx,hy];rfl
   show aH P (Sem.bind (Sem.bind (eqGuard .rem t x y (cq (ev tm x)) (cq (ev tm y))) λ_=>binOp .rem t (cq (ev tm x)) (cq (ev tm y))) λv=>Sem.pure (Next.value v))=_;rw[pT hx,pT hy];have e:binOp .rem t (.int k a) (.int k b)=pure (.int k (a.tmod b)):=by show(if k≠k then _ else Op.intDiv .rem k a b)=_;rw[ab (by simp)];unfold Op.intDiv;rw[ab hb]
   show aH P (Sem.bind (binOp .rem t (.int k a) (.int k b)) λv=>Sem.pure (Next.value v))=_;rw[e];rfl
  rw[ab h];rfl
 rfl
def MS{s t:TypeId}{ks kt:IntKind}{x:Operand}(hs:P.underlying s=some (.int ks))(ht:P.underlying t=some (.int kt)):
  aD P tm H ⟨d,.convert s t x,ty,pos,af,g⟩=YH (λ_ a=>.i kt (kt.wrap a)) H (cI P tm H ⟨d,.convert s t x,ty,pos,af,g⟩) (ev tm x):=by
 unfold YH;split
 ·rename_i k a hx
  refine oY (v:=.int kt (kt.wrap a)) ?_ ?_ rfl
  ·show([x].all λx=>(ev tm x).val?.isSome)=true;simp only[List.all_cons,List.all_nil,hx];rfl
  show aH P (Sem.bind (convert s t (cq (ev tm x))) λv=>Sem.pure (Next.value v))=_;rw[pT hx,bC];unfold convert;rw[bV,cY hs];simp only[Option.bind_some];rw[bV,cY ht];rfl
 rfl
def aa4{kd:Nat}{k k':IntKind}{a b:Int}{alt:ah}:cF H kd .rem (gV .rem) (.one (.i k a)) (.one (.i k' b)) alt=alt:=by cases k<;>cases k'<;>rfl
def aa3{kd:Nat}{k k':IntKind}{a b:Int}{alt:ah}:cF H kd .quo (gV .quo) (.one (.i k a)) (.one (.i k' b)) alt=alt:=by cases k<;>cases k'<;>rfl
def Hd(p:Prop):Prop:=p
theorem Hd.out{p:Prop}(h:Hd p):p:=h
theorem qA{a b:Prop}(h:a)(k:b):a/\b:=⟨h,k⟩
inductive WK(E:Env)(r:Option Nat)(Q:au->ag->Hp->Prop)(B:ag)(H:Hp):Code->Prop
 |ret:Q .ret B H->WK E r Q B H .ret
 |exit (id:Nat):Q (.exit id) B H->WK E r Q B H (.exit id)
 |skip:Q .normal B H->WK E r Q B H .skip
 |yQ (z:Code):Q .ret B H->WK E r Q B H (.seq .ret z)
 |si (id:Nat) (z:Code):Q (.exit id) B H->WK E r Q B H (.seq (.exit id) z)
 |aJ (x y z:Code):R1 E r (.seq x (.seq y z)) B H Q->WK E r Q B H (.seq (.seq x y) z)
 |bT (z:Code):R1 E r z B H Q->WK E r Q B H (.seq .skip z)
 |nQ (x z:Code):R1 E r (.seq x z) B H Q->WK E r Q B H (.seq (.scope x) z)
section
variable{E:Env}{r:Option Nat}{c z:Code}{B:ag}{H:Hp}{Q:au->ag->Hp->Prop}
def R1.w(h:WK E r Q B H c):R1 E r c B H Q:=by
 cases h with
 |ret h=>exact R1.ret h
 |exit id h=>exact R1.exit h
 |skip h=>exact R1.skip h
 |yQ z h=>exact R1.yQ h
 |si id z h=>exact R1.si h
 |aJ x y z h=>exact R1.aJ h
 |bT z h=>exact R1.bT h
 |nQ x z h=>exact R1.nQ h
def R1.s_r{id:Nat}{ops:Array Oper}{dr:Bool}(hs:(bif dr then sk false ops else true)=true)(h:∀K:ag->Hp->Prop,(∀B H,R1 E r z B H Q->K B H)->SG false E K (ops.toList.map λo=>gOf ops.toList o.guard) ops.toList B H):R1 E r (.seq (.region id ops dr) z) B H Q:=by
 cases dr with
 |true=>exact R1.Co hs h
 |false=>exact R1.sj h
def R1.e_r{id:Nat}{ops:Array Oper}{dr:Bool}(hs:(bif dr then sk false ops else true)=true)(h:∀K:ag->Hp->Prop,(∀B H,Q .normal B H->K B H)->SG false E K (ops.toList.map λo=>gOf ops.toList o.guard) ops.toList B H):R1 E r (.region id ops dr) B H Q:=by
 cases dr with
 |true=>exact R1.CV hs h
 |false=>exact R1.Gn h
end
theorem qW{p a b:Prop}(f:p)(hb:b)(e:p->Hd b->a:=by
  intro f hW;repeat' first|(refine R1.w ?_;constructor)|((first|refine R1.s_r ae λK hK=>?_|refine R1.e_r ae λK hK=>?_);simp only[qB,aZ,Nat.reduceLT,Nat.reduceEqDiff,Nat.reduceLeDiff,reduceIte,Nat.reduceAdd,Nat.reduceSub,Nat.reduceMul,Int.reduceLT,Int.reduceLE,Int.reduceBEq,f];apply hK;clear hK K)
  exact hW.out):a:=e f hb
theorem qV{a b:Prop}(hb:b)(e:Hd b->a:=by
  intro hW;repeat' first|(refine R1.w ?_;constructor)|((first|refine R1.s_r ae λK hK=>?_|refine R1.e_r ae λK hK=>?_);simp only[qB,aZ,Nat.reduceLT,Nat.reduceEqDiff,Nat.reduceLeDiff,reduceIte,Nat.reduceAdd,Nat.reduceSub,Nat.reduceMul,Int.reduceLT,Int.reduceLE,Int.reduceBEq];apply hK;clear hK K)
  exact hW.out):a:=e hb
theorem qG{p a b:Prop}(f:p)(hb:b)(e:p->Hd b->a:=by
  intro f hW;repeat refine R1.aJ ?_
  (first|refine R1.s_r ae λK hK=>?_|refine R1.e_r ae λK hK=>?_)
  simp only[qB,aZ,Nat.reduceLT,Nat.reduceEqDiff,Nat.reduceLeDiff,reduceIte,Nat.reduceAdd,Nat.reduceSub,Nat.reduceMul,Int.reduceLT,Int.reduceLE,Int.reduceBEq,f];revert K
  exact hW.out):a:=e f hb
theorem qH{p a b:Prop}(f:p)(hb:b)(e:p->Hd b->a:=by
  intro f hW;repeat refine R1.aJ ?_
  (first|refine R1.abo ae λK hK=>?_|refine R1.ab3 ae λK hK=>?_)
  simp only[qB,aZ,Nat.reduceLT,Nat.reduceEqDiff,Nat.reduceLeDiff,reduceIte,Nat.reduceAdd,Nat.reduceSub,Nat.reduceMul,Int.reduceLT,Int.reduceLE,Int.reduceBEq,f];revert K
  exact hW.out):a:=e f hb
theorem qS{p a b:Prop}(f:p)(hb:b)(e:p->Hd b->a:=by intro f hW;simp only[qB,aZ,Nat.reduceLT,Nat.reduceEqDiff,Nat.reduceLeDiff,reduceIte,Nat.reduceAdd,Nat.reduceSub,Nat.reduceMul,Int.reduceLT,Int.reduceLE,Int.reduceBEq,f];exact hW.out):a:=e f hb
theorem qT{a b:Prop}(hb:b)(e:Hd b->a:=by intro hW;simp only[qB,aZ,Nat.reduceLT,Nat.reduceEqDiff,Nat.reduceLeDiff,reduceIte,Nat.reduceAdd,Nat.reduceSub,Nat.reduceMul,Int.reduceLT,Int.reduceLE,Int.reduceBEq];exact hW.out):a:=e hb
theorem qZ{p a:Prop}(f:p)(e:p->a:=by intro f;simp only[qB,aZ,Nat.reduceLT,Nat.reduceEqDiff,Nat.reduceLeDiff,reduceIte,Nat.reduceAdd,Nat.reduceSub,Nat.reduceMul,Int.reduceLT,Int.reduceLE,Int.reduceBEq,f]):a:=e f
theorem qU{a:Prop}(e:a:=by simp only[qB,aZ,Nat.reduceLT,Nat.reduceEqDiff,Nat.reduceLeDiff,reduceIte,Nat.reduceAdd,Nat.reduceSub,Nat.reduceMul,Int.reduceLT,Int.reduceLE,Int.reduceBEq]):a:=e
theorem qE{a b:Prop}(hb:b)(e:Hd b->a:=by
  intro hW;repeat refine R1.aJ ?_
  (first|refine R1.Ft λKx Ky hx hy=>?_|refine R1.DM λKx Ky hx hy=>?_)
  simp only[qB,aZ,Nat.reduceLT,Nat.reduceEqDiff,Nat.reduceLeDiff,reduceIte,Nat.reduceAdd,Nat.reduceSub,Nat.reduceMul,Int.reduceLT,Int.reduceLE,Int.reduceBEq];revert Kx Ky
  exact hW.out):a:=e hb
theorem qX{p a b:Prop}(f:p)(hb:b)(e:p->Hd b->a:=by
  intro f hW;repeat refine R1.aJ ?_
  (first|refine R1.Ft λKx Ky hx hy=>?_|refine R1.DM λKx Ky hx hy=>?_)
  simp only[qB,aZ,Nat.reduceLT,Nat.reduceEqDiff,Nat.reduceLeDiff,reduceIte,Nat.reduceAdd,Nat.reduceSub,Nat.reduceMul,Int.reduceLT,Int.reduceLE,Int.reduceBEq,f]
  (first|refine hx ?_|refine hy ?_)
  exact hW.out):a:=e f hb
theorem qY{a b:Prop}(hb:b)(e:Hd b->a:=by
  intro hW;repeat refine R1.aJ ?_
  (first|refine R1.Ft λKx Ky hx hy=>?_|refine R1.DM λKx Ky hx hy=>?_)
  simp only[qB,aZ,Nat.reduceLT,Nat.reduceEqDiff,Nat.reduceLeDiff,reduceIte,Nat.reduceAdd,Nat.reduceSub,Nat.reduceMul,Int.reduceLT,Int.reduceLE,Int.reduceBEq]
  (first|refine hx ?_|refine hy ?_)
  exact hW.out):a:=e hb
theorem qp{p:Prop}(e:p:=by simp only[ak,lj,Nat.reduceEqDiff,reduceIte]):p:=e
theorem qd{p q:Prop}(f:q)(e:q->p:=by intro f;simp only[aM,f]):p:=e f
theorem ixC{len i:Nat}(h:i<len):∀(H:Hp)(id g off sz:Nat),dz H sz (.one (.o (.sl id g off len sz))) (.one (.i .i64 (i:Int)))=.val (.one (.o (.ptr id g (off+i*sz) sz))) H:=λ_ _ _ _ _=>ic h
theorem ixI{len:Nat}{x:Int}(h0:0<=x)(h:x<len):∀(H:Hp)(id g off sz:Nat),dz H sz (.one (.o (.sl id g off len sz))) (.one (.i .i64 x))=.val (.one (.o (.ptr id g (off+x.toNat*sz) sz))) H:=λ_ _ _ _ _=>CY h0 h
theorem slH{len i:Nat}(h:i<=len):∀(H:Hp)(id g off sz:Nat)(k:IntKind)(alt:ah),eU H sz (.one (.o (.sl id g off len sz))) none (some (.one (.i k (i:Int)))) alt=.val (.one (.o (.sl id g off i sz))) H:=λ_ _ _ _ _ _ _=>KV h
theorem slL{len i:Nat}(h:i<=len):∀(H:Hp)(id g off sz:Nat)(k:IntKind)(alt:ah),eU H sz (.one (.o (.sl id g off len sz))) (some (.one (.i k (i:Int)))) none alt=.val (.one (.o (.sl id g (off+i*sz) (len-i) sz))) H:=λ_ _ _ _ _ _ _=>WN h
theorem jU(z:List AC):nq z 1=z:=Ww
section
variable{E:Env}{r:Option Nat}{x y z:Code}{B:ag}{H:Hp}{Q:au->ag->Hp->Prop}
def R1.s_h{id:Nat}{ops:Array Oper}{dr:Bool}(hs:(bif dr then sk false ops else true)=true)(h:∀K:ag->Hp->Prop,Hd (∀B H,R1 E r z B H Q->K B H)->SG false E K (ops.toList.map λo=>gOf ops.toList o.guard) ops.toList B H):R1 E r (.seq (.region id ops dr) z) B H Q:=R1.s_r hs h
def R1.e_h{id:Nat}{ops:Array Oper}{dr:Bool}(hs:(bif dr then sk false ops else true)=true)(h:∀K:ag->Hp->Prop,Hd (∀B H,Q .normal B H->K B H)->SG false E K (ops.toList.map λo=>gOf ops.toList o.guard) ops.toList B H):R1 E r (.region id ops dr) B H Q:=R1.e_r hs h
def R1.s_hs{id:Nat}{ops:Array Oper}(hs:sk true ops=true)(h:∀K:ag->Hp->Prop,Hd (∀B H,R1 E r z B H Q->K B H)->SG true E K (ops.toList.map λo=>gOf ops.toList o.guard) ops.toList B H):R1 E r (.seq (.region id ops true) z) B H Q:=R1.abo hs h
def R1.abn{c:Operand}(h:∀Kx Ky:Prop,Hd (R1 E r (.seq x z) B H Q->Kx)->Hd (R1 E r (.seq y z) B H Q->Ky)->uh (ev B.tm c) λb=>if b=true then Kx else Ky):R1 E r (.seq (.cond c x y) z) B H Q:=R1.Ft h
def R1.aaS{c:Operand}(h:∀Kx Ky:Prop,Hd (R1 E r x B H Q->Kx)->Hd (R1 E r y B H Q->Ky)->uh (ev B.tm c) λb=>if b=true then Kx else Ky):R1 E r (.cond c x y) B H Q:=R1.DM h
def R1.dL{id:Nat}(h:∀K:au->ag->Hp->Prop,Hd (∀B H,R1 E r z B H Q->K .normal B H)->Hd (∀B H,R1 E r z B H Q->K (.exit id) B H)->Hd (∀i B H,i≠id->Q (.exit i) B H->K (.exit i) B H)->Hd (∀B H,Q .ret B H->K .ret B H)->R1 E r x B H K):R1 E r (.seq (.block id x) z) B H Q:=R1.bj h
def R1.mD{id:Nat}(h:∀K:au->ag->Hp->Prop,Hd (∀B H,Q .normal B H->K .normal B H)->Hd (∀B H,Q .normal B H->K (.exit id) B H)->Hd (∀i B H,i≠id->Q (.exit i) B H->K (.exit i) B H)->Hd (∀B H,Q .ret B H->K .ret B H)->R1 E r x B H K):R1 E r (.block id x) B H Q:=R1.lS h
def Hd.ap{K:ag->Hp->Prop}{Z:ag->Hp->Prop}(h:Hd (∀B H,Z B H->K B H)){B:ag}{H:Hp}(k:Z B H):K B H:=h _ _ k
end
theorem zW{p a b:Prop}(f:p)(hb:b)(e:p->Hd b->a:=by
  intro f hW;repeat' first|(refine R1.w ?_;constructor)|((first|refine R1.s_h ae λK hK=>?_|refine R1.e_h ae λK hK=>?_);simp only[qB,aZ,Nat.reduceLT,Nat.reduceEqDiff,Nat.reduceLeDiff,reduceIte,Nat.reduceAdd,Nat.reduceSub,Nat.reduceMul,Int.reduceLT,Int.reduceLE,Int.reduceBEq, *];apply hK.out;clear hK K)|((first|refine R1.abn λKx Ky hx hy=>?_|refine R1.aaS λKx Ky hx hy=>?_);simp only[qB,aZ,Nat.reduceLT,Nat.reduceEqDiff,Nat.reduceLeDiff,reduceIte,Nat.reduceAdd,Nat.reduceSub,Nat.reduceMul,Int.reduceLT,Int.reduceLE,Int.reduceBEq, *];(first|refine hx.out ?_|refine hy.out ?_);clear hx hy Kx Ky)
  exact hW.out):a:=e f hb
theorem zG{p a b:Prop}(f:p)(hb:b)(e:p->Hd b->a:=by
  intro f hW;repeat refine R1.aJ ?_
  (first|refine R1.s_h ae λK hK=>?_|refine R1.e_h ae λK hK=>?_)
  simp only[qB,aZ,Nat.reduceLT,Nat.reduceEqDiff,Nat.reduceLeDiff,reduceIte,Nat.reduceAdd,Nat.reduceSub,Nat.reduceMul,Int.reduceLT,Int.reduceLE,Int.reduceBEq, *];revert K
  exact hW.out):a:=e f hb
theorem zH{p a b:Prop}(f:p)(hb:b)(e:p->Hd b->a:=by
  intro f hW;repeat refine R1.aJ ?_
  (first|refine R1.s_hs ae λK hK=>?_|refine R1.e_hs ae λK hK=>?_)
  simp only[qB,aZ,Nat.reduceLT,Nat.reduceEqDiff,Nat.reduceLeDiff,reduceIte,Nat.reduceAdd,Nat.reduceSub,Nat.reduceMul,Int.reduceLT,Int.reduceLE,Int.reduceBEq, *];revert K
  exact hW.out):a:=e f hb
theorem zS{p a b:Prop}(f:p)(hb:b)(e:p->Hd b->a:=by intro f hW;simp only[qB,aZ,Nat.reduceLT,Nat.reduceEqDiff,Nat.reduceLeDiff,reduceIte,Nat.reduceAdd,Nat.reduceSub,Nat.reduceMul,Int.reduceLT,Int.reduceLE,Int.reduceBEq, *];exact hW.out):a:=e f hb
theorem zK{p a b:Prop}(f:p)(hb:b)(e:p->Hd b->a:=by
  intro f hW;try simp only[qB,aZ,Nat.reduceLT,Nat.reduceEqDiff,Nat.reduceLeDiff,reduceIte,Nat.reduceAdd,Nat.reduceSub,Nat.reduceMul,Int.reduceLT,Int.reduceLE,Int.reduceBEq, *]
  refine Hd.ap (Z:=?_) ?_ ?_;rotate_left
  ·assumption
  repeat' first|(refine R1.w ?_;constructor)|((first|refine R1.s_h ae λK hK=>?_|refine R1.e_h ae λK hK=>?_);simp only[qB,aZ,Nat.reduceLT,Nat.reduceEqDiff,Nat.reduceLeDiff,reduceIte,Nat.reduceAdd,Nat.reduceSub,Nat.reduceMul,Int.reduceLT,Int.reduceLE,Int.reduceBEq, *];apply hK.out;clear hK K)|((first|refine R1.abn λKx Ky hx hy=>?_|refine R1.aaS λKx Ky hx hy=>?_);simp only[qB,aZ,Nat.reduceLT,Nat.reduceEqDiff,Nat.reduceLeDiff,reduceIte,Nat.reduceAdd,Nat.reduceSub,Nat.reduceMul,Int.reduceLT,Int.reduceLE,Int.reduceBEq, *];(first|refine hx.out ?_|refine hy.out ?_);clear hx hy Kx Ky)
  exact hW.out):a:=e f hb
theorem zI{p a b c:Prop}(f:p)(hb:b)(hc:c)(e:p->Hd b->Hd c->a:=by
  intro f hW hV;repeat refine R1.aJ ?_
  (first|refine R1.abn λKx Ky hx hy=>?_|refine R1.aaS λKx Ky hx hy=>?_)
  simp only[qB,aZ,Nat.reduceLT,Nat.reduceEqDiff,Nat.reduceLeDiff,reduceIte,Nat.reduceAdd,Nat.reduceSub,Nat.reduceMul,Int.reduceLT,Int.reduceLE,Int.reduceBEq, *];refine iI ?_ ?_
  ·refineλhq=>hx.out ?_
   revert hq
   exact hW.out
  refineλhq=>hy.out ?_
  revert hq
  exact hV.out):a:=e f hb hc
theorem zL{p:Prop}(e:p:=by repeat' (first|(simp only[ak,lj,Nat.reduceEqDiff,reduceIte,bq,aM, *];first|done|rfl)|refine⟨?_,?_⟩)):p:=e
theorem qe{p:Prop}(e:p:=by first|(simp only[aM, *];done)|rfl):p:=e
theorem arQ:(∀(P:Program)(tm:PT AV)(H:Hp)(d:Option Tmp)(ty:TypeId)(pos:String)(af:Array Edge)(g:Option (Nat×Bool))(t c:TypeId)(x y:Operand),aD P tm H ⟨d,.binOp .quo t x y c,ty,pos,af,g⟩=ux (λ_ b=>b≠0) (λk a b=>.i k (k.wrap (a.tdiv b))) H (cI P tm H ⟨d,.binOp .quo t x y c,ty,pos,af,g⟩) (ev tm x) (ev tm y)) /\
  (∀(P:Program)(tm:PT AV)(H:Hp)(d:Option Tmp)(ty:TypeId)(pos:String)(af:Array Edge)(g:Option (Nat×Bool))(t c:TypeId)(x y:Operand),aD P tm H ⟨d,.binOp .rem t x y c,ty,pos,af,g⟩=ux (λ_ b=>b≠0) (λk a b=>.i k (a.tmod b)) H (cI P tm H ⟨d,.binOp .rem t x y c,ty,pos,af,g⟩) (ev tm x) (ev tm y)) /\
  (∀(H:Hp)(kd:Nat)(k k':IntKind)(a b:Int)(alt:ah),cF H kd .quo (gV .quo) (.one (.i k a)) (.one (.i k' b)) alt=alt)/\(∀(H:Hp)(kd:Nat)(k k':IntKind)(a b:Int)(alt:ah),cF H kd .rem (gV .rem) (.one (.i k a)) (.one (.i k' b)) alt=alt):=
 ⟨λ_ _ _ _ _ _ _ _ _ _ _ _=>RU,λ_ _ _ _ _ _ _ _ _ _ _ _=>RV,λ_ _ _ _ _ _ _=>aa3,λ_ _ _ _ _ _ _=>aa4⟩
theorem acp{b:Int}(h:b≠0):∀(H:Hp)(alt:ah)(k:IntKind)(a:Int),ux (λ_ b=>b≠0) (λk a b=>.i k (k.wrap (a.tdiv b))) H alt (.one (.i k a)) (.one (.i k b))=.val (.one (.i k (k.wrap (a.tdiv b)))) H:=λ_ _ _ _=>GG h
theorem acq{b:Int}(h:b≠0):∀(H:Hp)(alt:ah)(k:IntKind)(a:Int),ux (λ_ b=>b≠0) (λk a b=>.i k (a.tmod b)) H alt (.one (.i k a)) (.one (.i k b))=.val (.one (.i k (a.tmod b))) H:=λ_ _ _ _=>GG h
theorem FC{H:Hp}{v:AC}{sz n:Nat}{cells:List AC}(hv:SlC H v sz n cells):lO H sz (.one v)=some (n,cells):=by
 rcases hv with⟨hc,⟨rfl,rfl⟩|⟨id,g,off,rfl,hid,row,hg,hle,hcut⟩⟩
 ·rw[Nat.zero_mul]at hc;have hc:=List.eq_nil_of_length_eq_zero hc;subst hc;rfl
 rw[mo hg hle,hcut]
theorem FV{P:Program}{H:Hp}{t e:TypeId}{sz by_ n:Nat}{z:Value}{v:AC}{cells:List AC}(he:cG P t=some (e,sz))(hb:dB P e=some by_)(hz:aW P e=some z)(Q1:(ofValue z).cells.length=sz)(B2:sz≠0)
  (hv:SlC H v sz n cells) (h2:n<=140737488355328/\n*by_<=140737488355328):∃v' H' r',bM P H t (.one (.o .nilS)) (.one v)=.val (.one v') H'/\dA H' v' e sz n cells r'/\Gr H H'/\∀i,r'=some i->H.nx<=i:=by
 have ha:=mw he hb hz Q1 B2 (FC hv) h2.1 h2.2;rcases sB n with h0|h0
 ·refine⟨.o .nilS,H,none,ha.trans (ad h0),.inl ⟨rfl,h0,?_,rfl⟩,Fr.refl _,λ_ h=>by cases h⟩;have:=hv.1;rw[h0,Nat.zero_mul]at this;exact List.eq_nil_of_length_eq_zero this
 exact⟨.o (.sl H.nx 0 0 n sz),H.new (.arr cells e 0 0),some H.nx,ha.trans (ab aa),.inr ⟨H.nx,0,0,rfl,rfl,aC rfl,ai _,hv.1,ba _⟩,(Fr.refl _).new _,λi h=>by cases h;exact ai _⟩
theorem Dt{P:Program}{H:Hp}{t e:TypeId}{sz by_ n id:Nat}{z:Value}{v:AC}{cells:List AC}(he:cG P t=some (e,sz))(hb:dB P e=some by_)(hz:aW P e=some z)(Q1:(ofValue z).cells.length=sz)(B2:sz≠0)
  (hg:H.get id=some (.arr [] e 0 0)) (hid:id<H.nx) (hv:SlC H v sz n cells) (h2:n<=140737488355328/\n*by_<=140737488355328):∃v' H',bM P H t (.one (.o (.sl id 0 0 0 sz))) (.one v)=.val (.one v') H'/\dA H' v' e sz n cells (some id)/\Fr (λi=>i=id) H H':=by
 have ho:dA H (.o (.sl id 0 0 0 sz)) e sz 0 [] (some id):=.inr ⟨id,0,0,rfl,rfl,hg,ai _,by rw[Nat.zero_mul];rfl,hid⟩;have hs:=FC hv;rcases sB n with h0|h0
 ·subst h0;have hc:cells=[]:=by have:=hv.1;rw[Nat.zero_mul]at this;exact List.eq_nil_of_length_eq_zero this
  subst hc;refine⟨.o (.sl id 0 0 0 sz),H,?_,ho,Fr.refl _⟩;have e1:Nat.beq sz 0=false:=by
   cases h:Nat.beq sz 0 with
   |false=>rfl
   |true=>exact absurd (aO h) B2
  have e3:both (!Nat.beq sz 0) (Nat.beq (cA (ofValue z).cells) sz)=true:=by rw[e1,bZ,Q1,cZ];rfl
  have step:bM P H t (.one (.o (.sl id 0 0 0 sz))) (.one v)=fC H e sz by_ 0 [] (.one (.o (.sl id 0 0 0 sz))):=by unfold bM;simp only[he,hb,hz,nd,e3,aN,hs]
  rw[step];show qN (H.get id) _ _=_;rw[hg];show aN (both (Nat.beq sz sz) (both (Nat.beq e e) (both (Nat.ble 0 0) (both (Nat.ble 0 0) (both (Nat.ble (Nat.add 0 (Nat.mul 0 sz)) (cA ([]:List AC))) (both (Nat.ble (Nat.add 0 0) 140737488355328) (Nat.ble (Nat.mul (Nat.add 0 0) by_) 140737488355328))))))) _
   (Eng.ifE (Nat.beq 0 0) _ (Eng.ifE (both (Nat.beq 0 0) (both (Nat.beq 0 0) (Nat.beq (Nat.mul 0 sz) (cA ([]:List AC))))) _ _))=_
  have z1:Nat.mul 0 sz=0:=Nat.zero_mul sz;have z2:Nat.mul (Nat.add 0 0) by_=0:=Nat.zero_mul by_;rw[cZ,cZ,z1,z2];rfl
 obtain⟨v',H',r',h1,h3,h4,h5⟩:=ud (n:=0) he hb hz Q1 B2 ho hs aa hv.1 aa (by rw[Nat.zero_add];exact h2.2);rw[Nat.zero_add,iz]at h3;rcases h5 with h5|⟨h5,_⟩
 ·cases h5
  exact⟨v',H',h1,h3,h4.mono λi h=>by cases h;rfl⟩
 cases h5
theorem Mi{H:Hp}{id g off n sz:Nat}{alt:ah}{f:BF}:cF H 1 .eql f (.one (.o (.sl id g off n sz))) (.one (.o .nilS)) alt=.val (.one (.b false)) H:=rfl
theorem Um{H:Hp}{alt:ah}{f:BF}:cF H 1 .eql f (.one (.o .nilS)) (.one (.o .nilS)) alt=alt:=rfl
def Kg(r:Bool)(H:Hp)(alt:ah)(x y:AV):ah:=
 match x,y with
 |.one (.o .nilS),.one (.o .nilS)=>.val (.one (.b r)) H
 |_,_=>alt
theorem Za{r:Bool}{H:Hp}{alt:ah}:Kg r H alt (.one (.o .nilS)) (.one (.o .nilS))=.val (.one (.b r)) H:=rfl
theorem MU{P:Program}{tm:PT AV}{H:Hp}{d:Option Tmp}{t c:TypeId}{et:TypeId}{x y:Operand}{ty:TypeId}{pos:String}{af:Array Edge}{g:Option (Nat×Bool)}(h:P.underlying t=some (.slice et)):
  aD P tm H ⟨d,.binOp .eql t x y c,ty,pos,af,g⟩=Kg true H (cI P tm H ⟨d,.binOp .eql t x y c,ty,pos,af,g⟩) (ev tm x) (ev tm y):=by
 unfold Kg;split
 ·rename_i hx hy
  have vx:(ev tm x).val?=some (.slice none 0 0):=by rw[hx];rfl
  have vy:(ev tm y).val?=some (.slice none 0 0):=by rw[hy];rfl
  have dx:cq (ev tm x)=.slice none 0 0:=by unfold cq;rw[vx]
  have dy:cq (ev tm y)=.slice none 0 0:=by unfold cq;rw[vy]
  unfold aD;have e1:((⟨d,.binOp .eql t x y c,ty,pos,af,g⟩:Oper).op.operands.toList.all λx=>(ev tm x).val?.isSome)=true:=by show([x,y].all λx=>(ev tm x).val?.isSome)=true;simp only[List.all_cons,List.all_nil,vx,vy];rfl
  rw[e1];have e2:aH P (execOp (λx=>cq (ev tm x)) ⟨d,.binOp .eql t x y c,ty,pos,af,g⟩)=some (.value (.bool true)):=by
   show aH P (Sem.bind (Sem.bind (eqGuard .eql t x y (cq (ev tm x)) (cq (ev tm y))) λ_=>binOp .eql t (cq (ev tm x)) (cq (ev tm y))) λv=>Sem.pure (Next.value v))=_;rw[dx,dy,bC,bC];have hg:eqGuard .eql t x y (.slice none 0 0) (.slice none 0 0)=pure ():=rfl;rw[hg];show((aH P (Sem.bind (Op.equalIn 10000 t (.slice none 0 0) (.slice none 0 0)) λr=>Sem.pure (Value.bool r)))).bind _=_;have he:aH P (Op.equalIn 10000 t (.slice none 0 0) (.slice none 0 0))=some true:=by unfold Op.equalIn;rw[bV,cY h];rfl
   rw[bC,he];rfl
  rw[e2];rfl
 rfl
theorem Pv{P:Program}{t e:TypeId}(h1:dE P t=1)(h:P.underlying t=some (.slice e)):dE P t=1/\(∀(H:Hp)(alt:ah)(f:BF),cF H 1 .eql f (.one (.o .nilS)) (.one (.o .nilS)) alt=alt) /\
  (∀(H:Hp)(id g off n sz:Nat)(alt:ah)(f:BF),cF H 1 .eql f (.one (.o (.sl id g off n sz))) (.one (.o .nilS)) alt=.val (.one (.b false)) H) /\
  (∀(tm:PT AV)(H:Hp)(d:Option Tmp)(x y:Operand)(c ty:TypeId)(pos:String)(af:Array Edge)(g:Option (Nat×Bool)),aD P tm H ⟨d,.binOp .eql t x y c,ty,pos,af,g⟩=Kg true H (cI P tm H ⟨d,.binOp .eql t x y c,ty,pos,af,g⟩) (ev tm x) (ev tm y)) /\
  (∀(H:Hp)(alt:ah),Kg true H alt (.one (.o .nilS)) (.one (.o .nilS))=.val (.one (.b true)) H):=
 ⟨h1,λ_ _ _=>Um,λ_ _ _ _ _ _ _ _=>Mi,λ_ _ _ _ _ _ _ _ _ _=>MU h,λ_ _=>Za⟩
theorem R1.tV{E:Env}{r:Option Nat}{x z:Code}{A:ag}{H:Hp}{Q:au->ag->Hp->Prop}(I:ag->Hp->Prop)
  (h:∀K:au->ag->Hp->Prop,Hd (∀B H,I B H->K .normal B H)->Hd (∀i B H,Q (.exit i) B H->K (.exit i) B H)->Hd (∀B H,Q .ret B H->K .ret B H)->R1 E r x A H K)
  (h2:∀B H,I B H->R1 E r z B H Q):R1 E r (.seq x z) A H Q:=
 R1.seq ((h (Thn I Q) (λ_ _ h=>h) (λ_ _ _ h=>h) (λ_ _ h=>h)).mono λe B H' hq=>by
  cases e with
  |normal=>exact h2 _ _ hq
  |exit i=>exact hq
  |ret=>exact hq)
def Gc(op:BinOp)(k:IntKind)(a b:Int):Int:=
 match op with
 |.and=>k.wrap ((BitVec.ofInt k.bits a &&& BitVec.ofInt k.bits b).toNat)
 |_=>k.wrap ((BitVec.ofInt k.bits a ^^^ BitVec.ofInt k.bits b).toNat)
def Ep(p:Int->Int->Prop)[∀a b,Decidable (p a b)](f:IntKind->Int->Int->AC)(H:Hp)(alt:ah)(x y:AV):ah:=
 match x,y with|.one (.i k a),.one (.i _ b)=>if p a b then .val (.one (f k a b)) H else alt|_,_=>alt
theorem YI{p:Int->Int->Prop}[∀a b,Decidable (p a b)]{f:IntKind->Int->Int->AC}{H:Hp}{alt:ah}{k k':IntKind}{a b:Int}(h:p a b):Ep p f H alt (.one (.i k a)) (.one (.i k' b))=.val (.one (f k a b)) H:=ad h
section
variable{P:Program}{tm:PT AV}{H:Hp}{d:Option Tmp}{ty:TypeId}{pos:String}{af:Array Edge}{g:Option (Nat×Bool)}
def Fc{t c:TypeId}{x y:Operand}{op:BinOp}(ho:op=.and\/op=.xor):aD P tm H ⟨d,.binOp op t x y c,ty,pos,af,g⟩=ux (λ_ _=>True) (λk a b=>.i k (Gc op k a b)) H (cI P tm H ⟨d,.binOp op t x y c,ty,pos,af,g⟩) (ev tm x) (ev tm y):=by
 unfold ux;split
 ·rename_i k a k' b hx hy
  by_cases h:k=k'/\True
  ·rw[ad h];obtain⟨rfl,-⟩:=h;refine oY (v:=.int k (Gc op k a b)) ?_ ?_ rfl
   ·show([x,y].all λx=>(ev tm x).val?.isSome)=true;simp only[List.all_cons,List.all_nil,hx,hy];rfl
   have e:binOp op t (.int k a) (.int k b)=pure (.int k (Gc op k a b)):=by
    rcases ho with rfl|rfl
    ·show(if k≠k then _ else Op.intBits .and k a b)=_;rw[ab (by simp)];rfl
    show(if k≠k then _ else Op.intBits .xor k a b)=_;rw[ab (by simp)];rfl
   have eg:eqGuard op t x y (cq (ev tm x)) (cq (ev tm y))=pure ():=by rcases ho with rfl|rfl<;>rfl
   show aH P (Sem.bind (Sem.bind (eqGuard op t x y (cq (ev tm x)) (cq (ev tm y))) λ_=>binOp op t (cq (ev tm x)) (cq (ev tm y))) λv=>Sem.pure (Next.value v))=_;rw[eg,pT hx,pT hy];show aH P (Sem.bind (binOp op t (.int k a) (.int k b)) λv=>Sem.pure (Next.value v))=_;rw[e];rfl
  rw[ab h];rfl
 rfl
def shF(op:BinOp)(k:IntKind)(a b:Int):Int:=
 match op with
 |.shl=>k.wrap (a*2^(min b.toNat k.bits))
 |_=>a.fdiv (2^(min b.toNat k.bits))
def yJ{t c:TypeId}{x y:Operand}{op:BinOp}(ho:op=.shl\/op=.shr):aD P tm H ⟨d,.binOp op t x y c,ty,pos,af,g⟩=Ep (λ_ b=>0<=b) (λk a b=>.i k (shF op k a b)) H (cI P tm H ⟨d,.binOp op t x y c,ty,pos,af,g⟩) (ev tm x) (ev tm y):=by
 unfold Ep;split
 ·rename_i k a k' b hx hy
  by_cases h:0<=b
  ·rw[ad h];refine oY (v:=.int k (shF op k a b)) ?_ ?_ rfl
   ·show([x,y].all λx=>(ev tm x).val?.isSome)=true;simp only[List.all_cons,List.all_nil,hx,hy];rfl
   have e:binOp op t (.int k a) (.int k' b)=pure (.int k (shF op k a b)):=by
    rcases ho with rfl|rfl
    ·show Op.shift .shl k a k' b=_;unfold Op.shift;rw[ab aa];rfl
    show Op.shift .shr k a k' b=_;unfold Op.shift;rw[ab aa];rfl
   have eg:eqGuard op t x y (cq (ev tm x)) (cq (ev tm y))=pure ():=by rcases ho with rfl|rfl<;>rfl
   show aH P (Sem.bind (Sem.bind (eqGuard op t x y (cq (ev tm x)) (cq (ev tm y))) λ_=>binOp op t (cq (ev tm x)) (cq (ev tm y))) λv=>Sem.pure (Next.value v))=_;rw[eg,pT hx,pT hy];show aH P (Sem.bind (binOp op t (.int k a) (.int k' b)) λv=>Sem.pure (Next.value v))=_;rw[e];rfl
  rw[ab h];rfl
 rfl
end
theorem aa2{H:Hp}{kd:Nat}{k k':IntKind}{a b:Int}{alt:ah}:cF H kd .and (gV .and) (.one (.i k a)) (.one (.i k' b)) alt=alt:=by cases k<;>cases k'<;>rfl
theorem aa7{H:Hp}{kd:Nat}{k k':IntKind}{a b:Int}{alt:ah}:cF H kd .xor (gV .xor) (.one (.i k a)) (.one (.i k' b)) alt=alt:=by cases k<;>cases k'<;>rfl
theorem aa5{H:Hp}{kd:Nat}{k k':IntKind}{a b:Int}{alt:ah}:cF H kd .shl (gV .shl) (.one (.i k a)) (.one (.i k' b)) alt=alt:=by cases k<;>cases k'<;>rfl
theorem aa6{H:Hp}{kd:Nat}{k k':IntKind}{a b:Int}{alt:ah}:cF H kd .shr (gV .shr) (.one (.i k a)) (.one (.i k' b)) alt=alt:=by cases k<;>cases k'<;>rfl
theorem abW:(∀(P:Program)(tm:PT AV)(H:Hp)(d:Option Tmp)(ty:TypeId)(pos:String)(af:Array Edge)(g:Option (Nat×Bool))(t c:TypeId)(x y:Operand),aD P tm H ⟨d,.binOp .and t x y c,ty,pos,af,g⟩=ux (λ_ _=>True) (λk a b=>.i k (Gc .and k a b)) H (cI P tm H ⟨d,.binOp .and t x y c,ty,pos,af,g⟩) (ev tm x) (ev tm y)) /\
  (∀(P:Program)(tm:PT AV)(H:Hp)(d:Option Tmp)(ty:TypeId)(pos:String)(af:Array Edge)(g:Option (Nat×Bool))(t c:TypeId)(x y:Operand),aD P tm H ⟨d,.binOp .xor t x y c,ty,pos,af,g⟩=ux (λ_ _=>True) (λk a b=>.i k (Gc .xor k a b)) H (cI P tm H ⟨d,.binOp .xor t x y c,ty,pos,af,g⟩) (ev tm x) (ev tm y)) /\
  (∀(P:Program)(tm:PT AV)(H:Hp)(d:Option Tmp)(ty:TypeId)(pos:String)(af:Array Edge)(g:Option (Nat×Bool))(t c:TypeId)(x y:Operand),aD P tm H ⟨d,.binOp .shl t x y c,ty,pos,af,g⟩=Ep (λ_ b=>0<=b) (λk a b=>.i k (shF .shl k a b)) H (cI P tm H ⟨d,.binOp .shl t x y c,ty,pos,af,g⟩) (ev tm x) (ev tm y)) /\
  (∀(P:Program)(tm:PT AV)(H:Hp)(d:Option Tmp)(ty:TypeId)(pos:String)(af:Array Edge)(g:Option (Nat×Bool))(t c:TypeId)(x y:Operand),aD P tm H ⟨d,.binOp .shr t x y c,ty,pos,af,g⟩=Ep (λ_ b=>0<=b) (λk a b=>.i k (shF .shr k a b)) H (cI P tm H ⟨d,.binOp .shr t x y c,ty,pos,af,g⟩) (ev tm x) (ev tm y)) /\
  (∀(H:Hp)(kd:Nat)(k k':IntKind)(a b:Int)(alt:ah),cF H kd .and (gV .and) (.one (.i k a)) (.one (.i k' b)) alt=alt)/\(∀(H:Hp)(kd:Nat)(k k':IntKind)(a b:Int)(alt:ah),cF H kd .xor (gV .xor) (.one (.i k a)) (.one (.i k' b)) alt=alt) /\
  (∀(H:Hp)(kd:Nat)(k k':IntKind)(a b:Int)(alt:ah),cF H kd .shl (gV .shl) (.one (.i k a)) (.one (.i k' b)) alt=alt)/\(∀(H:Hp)(kd:Nat)(k k':IntKind)(a b:Int)(alt:ah),cF H kd .shr (gV .shr) (.one (.i k a)) (.one (.i k' b)) alt=alt) /\
  (∀(H:Hp)(alt:ah)(k:IntKind)(a b:Int),ux (λ_ _=>True) (λk a b=>.i k (Gc .and k a b)) H alt (.one (.i k a)) (.one (.i k b))=.val (.one (.i k (Gc .and k a b))) H)/\(∀(H:Hp)(alt:ah)(k:IntKind)(a b:Int),ux (λ_ _=>True) (λk a b=>.i k (Gc .xor k a b)) H alt (.one (.i k a)) (.one (.i k b))=.val (.one (.i k (Gc .xor k a b))) H):=
 ⟨λ_ _ _ _ _ _ _ _ _ _ _ _=>Fc (.inl rfl),λ_ _ _ _ _ _ _ _ _ _ _ _=>Fc (.inr rfl),λ_ _ _ _ _ _ _ _ _ _ _ _=>yJ (.inl rfl),λ_ _ _ _ _ _ _ _ _ _ _ _=>yJ (.inr rfl),
  λ_ _ _ _ _ _ _=>aa2,λ_ _ _ _ _ _ _=>aa7,λ_ _ _ _ _ _ _=>aa5,λ_ _ _ _ _ _ _=>aa6,λ_ _ _ _ _=>GG trivial,λ_ _ _ _ _=>GG trivial⟩
theorem shI{op:BinOp}{b:Int}(h:0<=b):∀(H:Hp)(alt:ah)(k k':IntKind)(a:Int),Ep (λ_ b=>0<=b) (λk a b=>.i k (shF op k a b)) H alt (.one (.i k a)) (.one (.i k' b))=.val (.one (.i k (shF op k a b))) H:=λ_ _ _ _ _=>YI h
theorem Xy(n:Int):IntKind.u64.wrap n=n%18446744073709551616:=by unfold IntKind.wrap;have h1:IntKind.signed .u64=false:=rfl;simp only[h1,Bool.false_and,Bool.false_eq_true,if_false];rfl
theorem Xx{x:Nat}(h:x<18446744073709551616):IntKind.u64.wrap (x:Int)=(x:Int):=by rw[Xy];omega
theorem WL{x k:Nat}(hk:k<=64):shF .shr .u64 (x:Int) (k:Int)=((x/2^k:Nat):Int):=by show((x:Int)).fdiv (2^(min (k:Int).toNat 64))=_;rw[uM,wW hk];have e:(2:Int)^k=((2^k:Nat):Int):=(Int.natCast_pow 2 k).symm;rw[e,Int.fdiv_eq_ediv_of_nonneg _ (Int.natCast_nonneg _),<-Int.natCast_ediv]
def RA(E:Env)(r:Option Nat)(c:Code)(A:ag)(H:Hp)(Q:au->ag->Hp->Prop):Prop:=∃n l,(codeF E c).run (eval E n) r A H=.ok l/\l≠[]/\∀x∈l,Q x.1 x.2.1 x.2.2
def OA(E:Env)(l:List OF)(A:ag)(H:Hp)(Q:ag->Hp->Prop):Prop:=∃n o,gm E (eval E n) l A H=.ok o/\o≠[]/\∀x∈o,Q x.1 x.2
theorem lZ{α β:Type}{f:Nat->α->R β}(hf:∀{n k:Nat} (x:α),n<=k->RLe (f n x) (f k x)){Q:β->Prop}:∀l:List α,l≠[]->(∀x∈l,∃n o,f n x=.ok o/\o≠[]/\∀y∈o,Q y)->∃n o,(∀k,n<=k->dO (f k) l=.ok o)/\o≠[]/\∀y∈o,Q y
 |[],h,_=>absurd rfl h
 |[x],_,h=>by obtain⟨n,o,h1,h2,h3⟩:=h x (List.mem_singleton.2 rfl);exact⟨n,o,λk hk=>hf x hk _ h1,h2,h3⟩
 |x::y::l,_,h=>by obtain⟨n,o,h1,h2,h3⟩:=h x (aT ..);obtain⟨n',o',m7,s_,h3'⟩:=lZ hf (y::l) (by simp) λz hz=>h z (aR _ hz);refine⟨max n n',o++o',λk hk=>?_,by simp[h2],λz hz=>(List.mem_append.1 hz).elim (h3 z) (h3' z)⟩;have a1:=hf x (show n<=k by omega) _ h1;have a2:=m7 k aa;show AB (f k x) (dO (f k) (y::l))=_;rw[a1,a2];rfl
section
variable{E:Env}{r:Option Nat}{A:ag}{H:Hp}{Q:au->ag->Hp->Prop}
def RA.of{c:Code}(h:R1 E r c A H Q):RA E r c A H Q:=by obtain⟨n,e,A1,H1,h1,h2⟩:=h;exact⟨n,_,h1,by simp,λx hx=>by rw[List.mem_singleton.1 hx];exact h2⟩
def RA.mono{c:Code}{Q':au->ag->Hp->Prop}(h:RA E r c A H Q)(hq:∀e A' H',Q e A' H'->Q' e A' H'):RA E r c A H Q':=
 let ⟨n,l,h1,h2,h3⟩:=h;⟨n,l,h1,h2,λx hx=>hq _ _ _ (h3 x hx)⟩
def OA.mono{l:List OF}{Q Q':ag->Hp->Prop}(h:OA E l A H Q)(hq:∀A' H',Q A' H'->Q' A' H'):OA E l A H Q':=
 let ⟨n,o,h1,h2,h3⟩:=h;⟨n,o,h1,h2,λx hx=>hq _ _ (h3 x hx)⟩
def OA.of{l:List OF}{Q:ag->Hp->Prop}(h:O1 E l A H Q):OA E l A H Q:=by obtain⟨n,A1,H1,h1,h2⟩:=h;exact⟨n,_,h1,by simp,λx hx=>by rw[List.mem_singleton.1 hx];exact h2⟩
def RA.skip(h:Q .normal A H):RA E r .skip A H Q:=RA.of (R1.skip h)
def RA.exit{id:Nat}(h:Q (.exit id) A H):RA E r (.exit id) A H Q:=RA.of (R1.exit h)
def RA.ret(h:Q .ret A H):RA E r .ret A H Q:=RA.of (R1.ret h)
def RA.scope{c:Code}(h:RA E r c A H Q):RA E r (.scope c) A H Q:=h
def RA.seq{x y:Code}(h:RA E r x A H (Thn (λA H=>RA E r y A H Q) Q)):RA E r (.seq x y) A H Q:=by
 obtain⟨n,l,h1,h2,h3⟩:=h;have key:=lZ (f:=λk z=>xI (codeF E y) (eval E k) r z) (λ{n k}z hk=>Gt (hY (fw E hk) y r _ _) (λ_=>RLe.refl _) (RLe.refl _)) (Q:=λz=>Q z.1 z.2.1 z.2.2) l h2 λz hz=>by
  have hq:=h3 z hz;obtain⟨e,A1,H1⟩:=z;cases e with
  |normal=>exact hq
  |exit i=>exact⟨0,_,rfl,by simp,λy hy=>by rw[List.mem_singleton.1 hy];exact hq⟩
  |ret=>exact⟨0,_,rfl,by simp,λy hy=>by rw[List.mem_singleton.1 hy];exact hq⟩
 obtain⟨n',o,k1,k2,k3⟩:=key;refine⟨max n n',o,?_,k2,k3⟩;have a1:=hY (fw E (sy n n')) x r A H _ h1;show((codeF E x).run (eval E (max n n')) r A H).bind (xI (codeF E y) (eval E (max n n')) r)=_;rw[a1];exact k1 _ (pY n n')
def RA.cond{c:Operand}{x y:Code}{b:Bool}(hc:ev A.tm c=.one (.b b))(h:RA E r (if b=true then x else y) A H Q):RA E r (.cond c x y) A H Q:=by
 obtain⟨n,l,h1,h2⟩:=h;refine⟨n,l,?_,h2⟩;show gj (ev A.tm c) (.bad "cond") (λb=>Eng.ifE b ((codeF E x).run (eval E n) r A H) ((codeF E y).run (eval E n) r A H))=_
 rw[hc];cases b with
 |true=>exact h1
 |false=>exact h1
def LX(id:Nat)(e:au)(A1:ag)(H1:Hp){Q:au->ag->Hp->Prop}(h:InB id Q e A1 H1):∃e2,nT id (e,A1,H1)=.ok [(e2,A1,H1)]/\Q e2 A1 H1:=by
 cases e with
 |normal=>exact⟨.normal,rfl,h⟩
 |ret=>exact⟨.ret,rfl,h⟩
 |exit i=>
  have h':if i=id then Q .normal A1 H1 else Q (.exit i) A1 H1:=h;by_cases hi:i=id
  ·rw[ad hi]at h';refine⟨.normal,?_,h'⟩;show Eng.ifE (Nat.beq i id) (R.ok [((.normal:au),A1,H1)]) (R.ok [(.exit i,A1,H1)])=_;rw[hi,cZ];rfl
  rw[ab hi]at h';refine⟨.exit i,?_,h'⟩;show Eng.ifE (Nat.beq i id) (R.ok [((.normal:au),A1,H1)]) (R.ok [(.exit i,A1,H1)])=_;have:Nat.beq i id=false:=by
   cases hb:Nat.beq i id with
   |false=>rfl
   |true=>exact absurd (aO hb) hi
  rw[this];rfl
def RA.round{c:Code}(h:RA E r c A H (Thn (λA H=>RA E r (.loop c) A H Q) Q)):RA E r (.loop c) A H Q:=by
 obtain⟨n,l,h1,h2,h3⟩:=h;have key:=lZ (f:=λk z=>BP (eval E k) r c z) (λ{n k}z hk=>Gt ((fw E hk).code _ _ _ _) (λ_=>RLe.refl _) (RLe.refl _)) (Q:=λz=>Q z.1 z.2.1 z.2.2) l h2 λz hz=>by
  have hq:=h3 z hz;obtain⟨e,A1,H1⟩:=z;cases e with
  |normal=>obtain⟨k,o,a,b⟩:=hq;exact⟨k+1,o,a,b⟩
  |exit i=>exact⟨0,_,rfl,by simp,λy hy=>by rw[List.mem_singleton.1 hy];exact hq⟩
  |ret=>exact⟨0,_,rfl,by simp,λy hy=>by rw[List.mem_singleton.1 hy];exact hq⟩
 obtain⟨n',o,k1,k2,k3⟩:=key;refine⟨max n n',o,?_,k2,k3⟩;have a1:=hY (fw E (sy n n')) c r A H _ h1;show((codeF E c).run (eval E (max n n')) r A H).bind (BP (eval E (max n n')) r c)=_;rw[a1];exact k1 _ (pY n n')
def RA.loop{c:Code}(I:Nat->ag->Hp->Prop)(hI:∀k A H,I k A H->RA E r c A H (Thn (λA' H'=>∃k',k'<k/\I k' A' H') Q)):∀(k:Nat){A:ag}{H:Hp},I k A H->RA E r (.loop c) A H Q:=by
 intro k;induction k using Nat.strongRecOn with
 |ind k ih=>
  intro A H h;refine RA.round ((hI k A H h).mono λe A' H' hq=>?_);cases e with
  |normal=>obtain⟨k',hk,h'⟩:=hq;exact ih k' hk h'
  |exit i=>exact hq
  |ret=>exact hq
def RA.region{id:Nat}{ops:Array Oper}(h:OA E (uF E.P ops) A H λA H=>Q .normal A H):RA E r (.region id ops false) A H Q:=by obtain⟨n,o,h1,h2,h3⟩:=h;obtain⟨n',o',k1,k2,k3⟩:=lZ (f:=λ_ z=>iJ z) (λ_ _=>RLe.refl _) (Q:=λz=>Q z.1 z.2.1 z.2.2) o h2 λz hz=>⟨0,_,rfl,by simp,λy hy=>by rw[List.mem_singleton.1 hy];exact h3 z hz⟩;refine⟨n,o',?_,k2,k3⟩;show(gm E (eval E n) (uF E.P ops) A H).bind iJ=_;rw[h1];exact k1 n' (ai _)
def OA.tN{g:Option (Option Tmp×Bool)}{d:Option Tmp}{f:SF}{o:Oper}{l:List OF}{Q:ag->Hp->Prop}{vs:List (AV×Hp)}(hg:∀y n:R (ag×Hp),cJ A.tm g y n=y)(hd:aZ d A.nt=true)
  (hr:f.run A.tm H=.tN vs) (Q0:vs≠[]) (h:∀x∈vs,OA E l (cU A d x.1) x.2 Q):OA E (⟨g,d,f,o⟩::l) A H Q:=by
 obtain⟨n,o',k1,k2,k3⟩:=lZ (f:=λk x=>jA A d x.1 x.2 (gm E (eval E k) l)) (λ{n k}x hk=>nN λa h=>rq (fw E hk) l a h) (Q:=λz=>Q z.1 z.2) vs Q0 λx hx=>by obtain⟨n,o,a,b⟩:=h x hx;exact⟨n,o,by rw[mh hd];exact a,b⟩
 refine⟨n,o',?_,k2,k3⟩;show cJ A.tm g (qs E (eval E n) A d H (gm E (eval E n) l) (f.run A.tm H)) _=_;rw[hg,hr];exact k1 n (ai _)
def OA.val{g:Option (Option Tmp×Bool)}{d:Option Tmp}{f:SF}{o:Oper}{l:List OF}{Q:ag->Hp->Prop}{v:AV}{H':Hp}(hg:∀y n:R (ag×Hp),cJ A.tm g y n=y)(hd:aZ d A.nt=true)
  (hr:f.run A.tm H=.val v H') (h:OA E l (cU A d v) H' Q):OA E (⟨g,d,f,o⟩::l) A H Q:=by
 obtain⟨n,o',h1,h2⟩:=h;refine⟨n,o',?_,h2⟩;show cJ A.tm g (qs E (eval E n) A d H (gm E (eval E n) l) (f.run A.tm H)) _=_;rw[hg,hr];show jA A d v H' (gm E (eval E n) l)=_;rw[mh hd];exact h1
end
structure abO{K:Type}[DecidableEq K](P:Program)(kt:TypeId)(kv:K->AV):Prop where
 eq:∀a b,lM P kt (kv a) (kv b)=some (decide (a=b))
 ok:∀e a,jw P e kt (kv a)=some ()
 same:∀a,sameKey P kt (kv a) (kv a)=true
 nt:∀a,(kv a).cE=true
theorem GJ{P:Program}{kt:TypeId}(h:bY P kt=1):abO P kt λn:Int=>.one (.i .i64 n)where
 eq:=λa b=>by
  unfold lM;rw[h];show Eng.ifE (sameKind .i64 .i64) (some (iEq a b)) none=_;rw[pv];by_cases hh:a=b
  ·subst hh;simp;rfl
  rw[bJ hh,aF hh];rfl
 ok:=λ_ s=>by unfold jw;rw[h];rfl
 same:=λa=>by unfold sameKey;rw[h];show both (sameKind .i64 .i64) (iEq a a)=true;rw[pv,dk];rfl
 nt:=λ_=>rfl
section
variable{K:Type}
def fQ(kv:K->AV):Nat->List (K×AC)->List cC
 |_,[]=>[]
 |n,(k,v)::l=>⟨kv k,.one v,n⟩::fQ kv (n+1) l
def lz(kv:K->AV)(l:List (K×AC)):aX:=.oth (.map (fQ kv 0 l) l.length)
def IX(kv:K->AV):∀(n:Nat)(l:List (K×AC))(k:K)(v:AC),fQ kv n (l++[(k,v)])=fQ kv n l++[⟨kv k,.one v,n+l.length⟩]
 |n,[],_,_=>rfl
 |n,(t,w)::l,k,v=>by show _::fQ kv (n+1) (l++[(k,v)])=_::(fQ kv (n+1) l++_);rw[IX kv (n+1) l k v];have:n+1+l.length=n+(l.length+1):=aa;rw[this];rfl
def zo(kv:K->AV):∀(n:Nat)(l:List (K×AC))(i:Nat),(fQ kv n l)[i]?=(l[i]?).map λp=>⟨kv p.1,.one p.2,n+i⟩
 |_,[],i=>by simp[fQ]
 |n,(t,w)::l,0=>rfl
 |n,(t,w)::l,i+1=>by show(fQ kv (n+1) l)[i]?=_;rw[zo kv (n+1) l i,List.getElem?_cons_succ];have:n+1+i=n+(i+1):=aa;rw[this]
variable[DecidableEq K]
def atG(l:List (K×AC))(k:K):Option AC:=
 match l with
 |[]=>none
 |(t,v)::l=>if t=k then some v else atG l k
def uJ(l:List (K×AC))(k:K)(v:AC):List (K×AC):=
 match l with
 |[]=>[(k,v)]
 |(t,w)::l=>if t=k then(k,v)::l else(t,w)::uJ l k v
variable{P:Program}{kt:TypeId}{kv:K->AV}(hk:abO P kt kv)
include hk
theorem lookup_nil{H:Hp}{z:AV}{k:K}{ok:Bool}:bR P H kt z (.one (.o .nilM)) (kv k) ok=bO H ok z false:=by unfold bR;simp only[hk.ok];rfl
theorem Fh(k:K)(x:AC):∀(n:Nat)(l:List (K×AC)),se P kt (kv k) (.one x) (fQ kv n l)=some ((atG l k).isSome,if(atG l k).isSome=true then fQ kv n (uJ l k x)else fQ kv n l)
 |n,[]=>rfl
 |n,(t,v)::l=>by
  have ih:=Fh k x (n+1) l;have e0:se P kt (kv k) (.one x) (fQ kv n ((t,v)::l))=aG (lM P kt (kv k) (kv t)) none λb=>Eng.ifE b (Eng.ifE (sameKey P kt (kv t) (kv k)) (some (true,⟨kv k,.one x,n⟩::fQ kv (n+1) l)) none) (aG (se P kt (kv k) (.one x) (fQ kv (n+1) l)) none λr=>some (r.1,⟨kv t,.one v,n⟩::r.2)):=rfl;rw[e0,hk.eq];by_cases R3:k=t
  ·subst R3;show Eng.ifE (decide (k=k)) _ _=_;rw[bp rfl];show Eng.ifE (sameKey P kt (kv k) (kv k)) _ _=_;rw[hk.same];have e1:atG ((k,v)::l) k=some v:=ad rfl;have e2:uJ ((k,v)::l) k x=(k,x)::l:=ad rfl;rw[e1,e2];rfl
  show Eng.ifE (decide (k=t)) _ _=_;rw[bJ R3];show aG (se P kt (kv k) (.one x) (fQ kv (n+1) l)) none _=_;rw[ih];have e1:atG ((t,v)::l) k=atG l k:=ab λh=>R3 h.symm;have e2:uJ ((t,v)::l) k x=(t,v)::uJ l k x:=ab λh=>R3 h.symm;rw[e1,e2];cases hs:(atG l k).isSome<;>rfl
omit hk in
theorem Lr{l:List (K×AC)}{k:K}{x:AC}(h:atG l k=none):uJ l k x=l++[(k,x)]:=by
 induction l with
 |nil=>rfl
 |cons p l ih=>
  obtain⟨t,w⟩:=p;have Q0:¬t=k:=λe=>by have:atG ((t,w)::l) k=some w:=ad e;rw[this]at h;cases h
  have h1:atG l k=none:=by have:atG ((t,w)::l) k=atG l k:=ab Q0;rw[this]at h;exact h
  have e2:uJ ((t,w)::l) k x=(t,w)::uJ l k x:=ab Q0;rw[e2,ih h1];rfl
omit hk in
theorem Lq{k:K}{x:AC}:∀{l:List (K×AC)},(uJ l k x).length=if(atG l k).isSome=true then l.length else l.length+1
 |[]=>rfl
 |(t,w)::l=>by
  by_cases ht:t=k
  ·have e1:atG ((t,w)::l) k=some w:=ad ht;have e2:uJ ((t,w)::l) k x=(k,x)::l:=ad ht;rw[e1,e2];rfl
  have e1:atG ((t,w)::l) k=atG l k:=ab ht;have e2:uJ ((t,w)::l) k x=(t,w)::uJ l k x:=ab ht;rw[e1,e2,List.length_cons,Lq];split<;>rfl
theorem Ls{H:Hp}{id:Nat}{k:K}{l:List (K×AC)}{x:AC}(hg:H.get id=some (lz kv l)):
  bE P H kt (.one (.o (.mp id))) (kv k) (.one x)=.val aQ (H.mod id (lz kv (uJ l k x))):=by
 unfold bE;have Q2:H.get id=some (.oth (.map (fQ kv 0 l) l.length)):=hg;simp only[Q2,hk.ok];show aN (both (kv k).cE true) _ (nd (se P kt (kv k) (.one x) (fQ kv 0 l)) _ _)=_;rw[hk.nt,Fh hk k x 0 l];cases hs:atG l k with
 |some v=>show ah.val aQ (H.mod id (.oth (.map (fQ kv 0 (uJ l k x)) l.length)))=_;unfold lz;rw[Lq,hs];rfl
 |none=>show ah.val aQ (H.mod id (.oth (.map (fQ kv 0 l++[⟨kv k,.one x,l.length⟩]) (l.length+1))))=_;unfold lz;rw[Lr hs,IX,aI,Nat.zero_add];rfl
end
section
variable{K:Type}{kv:K->AV}{H:Hp}{m r:Nat}{l:List (K×AC)}{seen:List Nat}
def qk(m n:Nat)(seen:List Nat):aX:=.oth (.iter (some m) n seen n)
def Zz(hg:H.get m=some (lz kv l)):kE H (.one (.o (.mp m)))=.val (.one (.o (.it H.nx))) (H.new (qk m l.length [])):=by unfold kE;have Q2:H.get m=some (.oth (.map (fQ kv 0 l) l.length)):=hg;simp only[Q2];rfl
def RY:kE H (.one (.o .nilM))=.val (.one (.o (.it H.nx))) (H.new (.oth (.iter none 0 [] 0))):=rfl
def VJ(hr:H.get r=some (.oth (.iter none 0 [] 0))):ib H (.one (.o (.it r)))=.val qq H:=by unfold ib;simp only[hr]
def xm{e:cC}(he:e∈fQ kv 0 l):∃i p,l[i]?=some p/\e=⟨kv p.1,.one p.2,i⟩:=by
 obtain⟨i,hi⟩:=List.mem_iff_getElem?.1 he;rw[zo]at hi;cases hp:l[i]? with
 |none=>rw[hp]at hi;cases hi
 |some p=>rw[hp]at hi;refine⟨i,p,hp,?_⟩;have:=eh hi;rw[<-this,Nat.zero_add]
def RD(hr:H.get r=some (qk m l.length seen))(hg:H.get m=some (lz kv l))(hs:∀i,i<l.length->i∈seen):ib H (.one (.o (.it r)))=.val qq H:=by
 unfold ib;have T3:H.get r=some (.oth (.iter (some m) l.length seen l.length)):=hr;have Q2:H.get m=some (.oth (.map (fQ kv 0 l) l.length)):=hg;simp only[T3,Q2];have h1:(!(!seen.isEmpty&&!(fQ kv 0 l).isEmpty&&(fQ kv 0 l).all (λe=>Nat.ble l.length e.born)))=true:=by
  cases l with
  |nil=>simp[fQ]
  |cons p l=>have:Nat.ble (l.length+1) 0=false:=rfl;simp[fQ,this]
 rw[h1];have h2:(fQ kv 0 l).filter (λe=>!seen.contains e.born)=[]:=by rw[List.filter_eq_nil_iff];intro e he;obtain⟨i,p,hp,rfl⟩:=xm he;have:i∈seen:=hs i (List.getElem?_eq_some_iff.1 hp).1;simp[this]
 rw[h2];rfl
def RE(hr:H.get r=some (qk m l.length seen))(hg:H.get m=some (lz kv l))(hs:∃i,i<l.length/\i∉seen):
  ∃vs,ib H (.one (.o (.it r)))=.tN vs/\vs≠[]/\∀x∈vs,∃i p,l[i]?=some p/\i∉seen/\x=(sv (kv p.1) (.one p.2),H.mod r (qk m l.length (seen++[i]))):=by
 obtain⟨i0,A6,hs0⟩:=hs;have T3:H.get r=some (.oth (.iter (some m) l.length seen l.length)):=hr;have Q2:H.get m=some (.oth (.map (fQ kv 0 l) l.length)):=hg;have h1:(!(!seen.isEmpty&&!(fQ kv 0 l).isEmpty&&(fQ kv 0 l).all (λe=>Nat.ble l.length e.born)))=true:=by
  cases l with
  |nil=>simp[fQ]
  |cons p l=>have:Nat.ble (l.length+1) 0=false:=rfl;simp[fQ,this]
 have D0:∀e,e∈(fQ kv 0 l).filter (λe=>!seen.contains e.born)->∃i p,l[i]?=some p/\i∉seen/\e=⟨kv p.1,.one p.2,i⟩:=λe he=>by obtain⟨h2,h3⟩:=List.mem_filter.1 he;obtain⟨i,p,hp,rfl⟩:=xm h2;exact⟨i,p,hp,by simpa using h3,rfl⟩
 cases hf:(fQ kv 0 l).filter (λe=>!seen.contains e.born)with
 |nil=>exfalso;rw[List.filter_eq_nil_iff]at hf;have h2:=zo kv 0 l i0;rw[aA A6,Nat.zero_add]at h2;have:=hf _ (List.mem_iff_getElem?.2 ⟨i0,h2⟩);simp[hs0]at this
 |cons e es=>
  rw[hf]at D0;refine⟨(e::es).map λe=>(sv e.key e.val,H.mod r (qk m l.length (seen++[e.born]))),?_,by simp,λx hx=>?_⟩
  ·unfold ib;simp only[T3,Q2];rw[h1,hf];have h4:((e::es).all λe=>Nat.blt e.born l.length)=true:=by rw[om];intro e' he';obtain⟨i,p,hp,_,rfl⟩:=D0 e' he';exact bU (List.getElem?_eq_some_iff.1 hp).1
   show aN true _ (aN ((e::es).all λe=>Nat.blt e.born l.length) _ _)=_;rw[h4];rfl
  obtain⟨e',he',rfl⟩:=List.mem_map.1 hx;obtain⟨i,p,hp,hn,rfl⟩:=D0 e' he';exact⟨i,p,hp,hn,rfl⟩
def Ys{i:Nat}{p:K×AC}(hr:H.get r=some (qk m l.length (seen++[i])))(hg:H.get m=some (lz kv l))(hp:l[i]?=some p):kD H (.one (.o (.it r)))=.val (VX (kv p.1) (.one p.2)) H:=by
 unfold kD;have T3:H.get r=some (.oth (.iter (some m) l.length (seen++[i]) l.length)):=hr;have Q2:H.get m=some (.oth (.map (fQ kv 0 l) l.length)):=hg;simp only[T3,Q2,List.getLast?_concat,cZ];have hf:(fQ kv 0 l).find? (λe=>Nat.beq e.born i)=some ⟨kv p.1,.one p.2,i⟩:=by
  cases hx:(fQ kv 0 l).find? (λe=>Nat.beq e.born i)with
  |none=>exfalso;have h2:=zo kv 0 l i;rw[hp,Nat.zero_add]at h2;have:=List.find?_eq_none.1 hx _ (List.mem_iff_getElem?.2 ⟨i,h2⟩);simp at this
  |some e=>obtain⟨j,q,hq,rfl⟩:=xm (List.mem_of_find?_eq_some hx);have hb:=List.find?_some hx;have:j=i:=aO hb;subst this;rw[hp]at hq;cases hq;rfl
 show aN true _ _=_;simp only[aN,hf]
end
section
variable{st:Bool}{E:Env}{A:ag}{H:Hp}{next:ag->Hp->Prop}{d:Option Tmp}{ty:TypeId}{pos:String}{af:Array Edge}{gd:Option (Nat×Bool)}
def SP{x:Operand}:SK st E ⟨d,.entry x,ty,pos,af,gd⟩ A H next=(True/\vN next A d (kD H (ev A.tm x))):=rfl
def SS{t:TypeId}{x:Operand}:SK st E ⟨d,.range t x,ty,pos,af,gd⟩ A H next=(True/\kU (kg E.P t) λ_=>vN next A d (kE H (ev A.tm x))):=by show(True/\gY _ ((ndF (kg E.P t) _ _).run A.tm H))=_;rw[ef];rfl
end
theorem OA.nil{E:Env}{A:ag}{H:Hp}{Q:ag->Hp->Prop}(h:Q A H):OA E [] A H Q:=OA.of (O1.nil h)
section
variable{P:Program}{H:Hp}{t e:TypeId}{sz by_ n k:Nat}{z:Value}{x:AV}{c:List AC}
def Iu{s:AV}(he:cG P t=some (e,sz))(hb:dB P e=some by_)(hz:aW P e=some z)(Q1:(ofValue z).cells.length=sz)(B2:sz≠0)(hs:lO H sz x=some (k,c)):bM P H t s x=fC H e sz by_ k c s:=by
 have e1:Nat.beq sz 0=false:=by
  cases h:Nat.beq sz 0 with
  |false=>rfl
  |true=>exact absurd (aO h) B2
 have e3:both (!Nat.beq sz 0) (Nat.beq (cA (ofValue z).cells) sz)=true:=by rw[e1,bZ,Q1,cZ];rfl
 unfold bM;simp only[he,hb,hz,nd,e3,aN,hs]
def AD{id gen lo at_:Nat}{cells:List AC}(he:cG P t=some (e,sz))(hb:dB P e=some by_)(hz:aW P e=some z)(Q1:(ofValue z).cells.length=sz)(B2:sz≠0)
  (hg:H.get id=some (.arr cells e lo gen)) (L7:lo<=gen) (J0:at_*sz<=cells.length) (hs:lO H sz x=some (k,c)) (hk:k≠0) (h1:at_+k<=140737488355328) (h2:(at_+k)*by_<=140737488355328):
  ∃lo',lo'<=gen+1/\bM P H t (.one (.o (.sl id gen 0 at_ sz))) x=.val (.one (.o (.sl id (gen+1) 0 (at_+k) sz))) (H.mod id (.arr (cells.take (at_*sz)++c) e lo' (gen+1))):=by
 have e2:Nat.beq k 0=false:=by
  cases h:Nat.beq k 0 with
  |false=>rfl
  |true=>exact absurd (aO h) hk
 have g5:Nat.ble (Nat.add 0 (Nat.mul at_ sz)) (cA cells)=true:=by rw[bZ];exact bU (by show 0+at_*sz<=cells.length;omega)
 have g6:Nat.ble (Nat.add at_ k) 140737488355328=true:=bU h1;have g7:Nat.ble (Nat.mul (Nat.add at_ k) by_) 140737488355328=true:=bU h2;have key:bM P H t (.one (.o (.sl id gen 0 at_ sz))) x=Eng.ifE (Nat.beq (Nat.mul at_ sz) (cA cells)) (.val (.one (.o (.sl id (gen+1) 0 (at_+k) sz))) (H.mod id (.arr (qu cells c) e lo (gen+1)))) (.val (.one (.o (.sl id (gen+1) 0 (at_+k) sz))) (H.mod id (.arr (qu (cut cells 0 (Nat.mul at_ sz)) c) e (gen+1) (gen+1)))):=by
  rw[Iu he hb hz Q1 B2 hs];show qN (H.get id) _ _=_;rw[hg];show aN (both (Nat.beq sz sz) (both (Nat.beq e e) (both (Nat.ble lo gen) (both (Nat.ble gen gen) (both (Nat.ble (Nat.add 0 (Nat.mul at_ sz)) (cA cells)) (both (Nat.ble (Nat.add at_ k) 140737488355328) (Nat.ble (Nat.mul (Nat.add at_ k) by_) 140737488355328))))))) _
   (Eng.ifE (Nat.beq k 0) _ (Eng.ifE (both (Nat.beq gen gen) (both (Nat.beq 0 0) (Nat.beq (Nat.mul at_ sz) (cA cells)))) _ _))=_
  rw[cZ,cZ,cZ,bU L7,bU (ai gen),g5,g6,g7,e2];rfl
 rw[key];cases hf:Nat.beq (Nat.mul at_ sz) (cA cells)with
 |true=>
  have hl:at_*sz=cells.length:=by have:=aO hf;rw[bZ]at this;exact this
  refine⟨lo,tC L7,?_⟩;rw[hl,pZ,kz];rfl
 |false=>refine⟨gen+1,ai _,?_⟩;rw[kz,kz,nU,List.drop_zero];rfl
end
def tZ(H:Hp)(id:Nat)(look:Int->Option AV):Prop:=(∃es c k,H.get id=some (.oth (.map es c))/\ql es=some k/\∀n,fq n k=look n)\/∃k,H.get id=some (.oth (.fmap k))/\∀n,fq n k=look n
structure NG(H:Hp)(nt:Nat)(df:List Nat)(P:ag->Hp->Prop)(A':ag)(H':Hp):Prop where
 ntE:A'.nt=nt
 dfr:A'.dfr=df
 slot:∀t v,t<nt->(∀A2 H2,P A2 H2->slot A2.tm t=v)->slot A'.tm t=v
 old:∀id x,id<H.nx->(∀A2 H2,P A2 H2->H.nx<=H2.nx/\H2.get id=x)->H'.get id=x
 map:∀id look,id<H.nx->(∀A2 H2,P A2 H2->H.nx<=H2.nx/\∃es c k,H2.get id=some (.oth (.map es c))/\ql es=some k/\∀n,fq n k=look n)->tZ H' id look
 nx:(∀A2 H2,P A2 H2->H.nx<=H2.nx)->H.nx<=H'.nx
 log:∀X:Nat->Prop,(∀i,i<H.nx->¬X i->∃x,∀A2 H2,P A2 H2->H2.get i=x)->(∀A2 H2,P A2 H2->∃l,H2.log=l++H.log/\∀id∈l,H.nx<=id\/X id)->∃l,H'.log=l++H.log/\∀id∈l,H.nx<=id\/X id
section
variable{E:Env}{A:ag}{H:Hp}{r:Option Nat}
open Classical in
def UU{nt:Nat}{df:List Nat}{e0:au}{P:ag->Hp->Prop}{l:List (au×ag×Hp)}(Q0:l≠[])(hl:∀z∈l,z.1=e0/\z.2.1.nt=nt/\z.2.1.dfr=df/\P z.2.1 z.2.2)
  (hold:∀i,i<H.nx->(∃x,∀A2 H2,P A2 H2->H2.get i=x)\/(∃look:Int->Option AV,∀A2 H2,P A2 H2->∃es c k,H2.get i=some (.oth (.map es c))/\ql es=some k/\∀n,fq n k=look n)\/∀A2 H2,P A2 H2->∃x,H2.get i=some (.oth x)):
  ∃A' H',rO H l=[(e0,A',H')]/\NG H nt df P A' H':=by
 cases l with
 |nil=>exact absurd rfl Q0
 |cons x l=>
  obtain⟨O0,V6,hx3,h_⟩:=hl x (aT ..);cases l with
  |nil=>
   refine⟨x.2.1,x.2.2,?_,⟨V6,hx3,λt v _ h=>h _ _ h_,λid x _ h=>(h _ _ h_).2,λid look _ h=>.inl (h _ _ h_).2,λh=>h _ _ h_,λX _ h=>h _ _ h_⟩⟩;show[x]=_
   rw[<-O0]
  |cons y l=>
   have e:rO H (x::y::l)=UX H (x::y::l) x:=rfl;have hc:∀z∈x::y::l,z.1=x.1/\z.2.1.nt=x.2.1.nt/\z.2.1.dfr=x.2.1.dfr/\∀id,id<H.nx->z.2.2.t.get id=x.2.2.t.get id\/(∃k,Ay (x::y::l) id k)\/∀z∈x::y::l,Dq z id:=λz hz=>by
    obtain⟨a1,a2,a3,a4⟩:=hl z hz;refine⟨a1.trans O0.symm,a2.trans V6.symm,a3.trans hx3.symm,λid hid=>?_⟩;rcases hold id hid with⟨o,ho⟩|⟨look,ho⟩|ho
    ·exact .inl ((ho _ _ a4).trans (ho _ _ h_).symm)
    ·obtain⟨es,c,k,_,_,h3⟩:=ho _ _ h_;refine .inr (.inl ⟨k,λw hw=>?_⟩);obtain⟨es',c',k',m7,s_,h3'⟩:=ho _ _ (hl w hw).2.2.2;exact⟨es',c',k',m7,s_,λn=>(h3' n).trans (h3 n).symm⟩
    exact .inr (.inr λw hw=>ho _ _ (hl w hw).2.2.2)
   have e2:rO H (x::y::l)=[(x.1,⟨vR (x::y::l) x.2.1.tm x.2.1.nt,x.2.1.nt,x.2.1.dfr⟩,vP H (x::y::l) x.2.2.t)]:=by rw[e];exact ad hc
   refine⟨_,_,by rw[e2,O0],?_⟩;have D0:∀z∈x::y::l,P z.2.1 z.2.2:=λz hz=>(hl z hz).2.2.2;generalize hL:x::y::l=L at *;have hxL:x∈L:=by rw[<-hL];exact aT ..
   have agree:∀id o,id<H.nx->(∀A2 H2,P A2 H2->H2.get id=o)->∀z∈L,dP H.nx id (z.2.2.t.get id)=dP H.nx id (x.2.2.t.get id):=λid o hid h z hz=>congrArg _ ((h _ _ (D0 z hz)).trans (h _ _ h_).symm);refine⟨V6,hx3,λt v ht h=>?_,λid o hid h=>?_,λid look hid h=>?_,λh=>?_,λX hX h=>?_⟩
   ·show pj (vR L x.2.1.tm x.2.1.nt) t=v;have S3:∀z∈L,pj z.2.1.tm t=pj x.2.1.tm t:=λz hz=>(h _ _ (D0 z hz)).trans (h _ _ h_).symm;rw[uI,ad (by rw[V6];exact ht),ad S3];exact h _ _ h_
   ·have h1:=h _ _ h_;have h2:id<wj L:=ax (ax hid h1.1) (pz hxL);rw[jY,ad h2];unfold vQ;rw[ad (agree id o hid λA2 H2 hp=>(h A2 H2 hp).2)];show(if id<H.nx then x.2.2.t.get id else _)=_;rw[ad hid];exact h1.2
   ·have h1:=h _ _ h_;have h2:id<wj L:=ax (ax hid h1.1) (pz hxL);have hg:(vP H L x.2.2.t).get id=vQ H.nx L x.2.2.t id:=by rw[jY,ad h2]
    unfold vQ at hg;by_cases S3:∀z∈L,dP H.nx id (z.2.2.t.get id)=dP H.nx id (x.2.2.t.get id)
    ·rw[ad S3]at hg;have:dP H.nx id (x.2.2.t.get id)=x.2.2.t.get id:=ad hid;rw[this]at hg;obtain⟨es,c,k,a1,a2,a3⟩:=h1.2;exact .inl ⟨es,c,k,hg.trans a1,a2,a3⟩
    have hk:∃k,Ay L id k:=by obtain⟨es,c,k,_,_,a3⟩:=h1.2;refine⟨k,λw hw=>?_⟩;obtain⟨_,es',c',k',m7,s_,h3'⟩:=h _ _ (D0 w hw);exact⟨es',c',k',m7,s_,λn=>(h3' n).trans (a3 n).symm⟩
    rw[ab S3,dif_pos hk]at hg;refine .inr ⟨_,hg,λn=>?_⟩;obtain⟨es,c,k',b1,b2,b3⟩:=hk.choose_spec x hxL;obtain⟨es2,c2,k2,a1,a2,a3⟩:=h1.2;have a1:x.2.2.t.get id=some (.oth (.map es2 c2)):=a1;rw[b1]at a1;cases a1
    rw[b2]at a2;cases a2
    exact(b3 n).symm.trans (a3 n)
   ·exact aS (h _ _ h_) (pz hxL)
   refine⟨_,rfl,λid hid=>?_⟩;rcases List.mem_append.1 hid with hid|hid
   ·obtain⟨_,h2⟩:=(BQ _).1 hid;rcases cL id H.nx with h3|h3
    ·right;refine fL λhx=>h2 ?_;obtain⟨o,ho⟩:=hX id h3 hx;exact agree id o h3 ho
    exact .inl h3
   obtain⟨z,hz,U2⟩:=List.mem_flatMap.1 hid;obtain⟨l2,e3,f3⟩:=h _ _ (D0 z hz);rw[GP e3]at U2;exact f3 id U2
def R1.aaL{id nt:Nat}{c:Code}{df:List Nat}{Q:au->ag->Hp->Prop}(P:ag->Hp->Prop)(hj:E.jn id=true)
  (h:RA E r c A H (InB id λe A' H'=>e=.normal/\A'.nt=nt/\A'.dfr=df/\P A' H'))
  (hold:∀i,i<H.nx->(∃x,∀A2 H2,P A2 H2->H2.get i=x)\/(∃look:Int->Option AV,∀A2 H2,P A2 H2->∃es c k,H2.get i=some (.oth (.map es c))/\ql es=some k/\∀n,fq n k=look n)\/∀A2 H2,P A2 H2->∃x,H2.get i=some (.oth x))
  (hq:∀A' H',NG H nt df P A' H'->Q .normal A' H'):R1 E r (.block id c) A H Q:=by
 obtain⟨n,l,h1,h2,h3⟩:=h;obtain⟨n',o,k1,k2,k3⟩:=lZ (f:=λ_ z=>nT id z) (λ_ _=>RLe.refl _) (Q:=λz=>z.1=au.normal/\z.2.1.nt=nt/\z.2.1.dfr=df/\P z.2.1 z.2.2) l h2 λz hz=>by obtain⟨e,A1,H1⟩:=z;obtain⟨e2,a,b⟩:=LX id e A1 H1 (h3 _ hz);exact⟨0,_,a,by simp,λy hy=>by rw[List.mem_singleton.1 hy];exact b⟩
 obtain⟨A',H',j1,j2⟩:=UU (H:=H) k2 k3 hold;refine⟨n,.normal,A',H',?_,hq A' H' j2⟩;show oV (E.jn id) H (((codeF E c).run (eval E n) r A H).bind (nT id))=_;rw[h1,hj];have e3:R.bind (R.ok l) (nT id)=.ok o:=k1 n' (ai _);rw[e3];show R.ok (rO H o)=_;rw[j1]
end
theorem px:∀(n:Nat)(l:List (Int×AC)),ql (fQ (λx:Int=>.one (.i .i64 x)) n l)=some (l.map λp=>(p.1,AV.one p.2))
 |_,[]=>rfl
 |n,(k,v)::l=>by show(match AV.one (.i .i64 k),ql (fQ _ (n+1) l)with|.one (.i .i64 n),some r=>some ((n,AV.one v)::r)|_,_=>none)=_;rw[px (n+1) l];rfl
theorem sZ{x:Int}:∀(l:List (Int×AC)),fq x (l.map λp=>(p.1,AV.one p.2))=(atG l x).map AV.one
 |[]=>rfl
 |(k,v)::l=>by
  show(if x=k then some (AV.one v)else fq x _)=(if k=x then some v else atG l x).map AV.one;by_cases h:x=k
  ·subst h;rw[ad rfl,ad rfl];rfl
  rw[ab h,ab λe=>h e.symm,sZ l]
theorem tZ.of{H:Hp}{id:Nat}{l:List (Int×AC)}(h:H.get id=some (lz (λx:Int=>.one (.i .i64 x)) l)):tZ H id λn=>(atG l n).map AV.one:=
 .inl ⟨_,_,_,h,px 0 l,λn=>sZ l⟩
theorem tZ.fr{H H':Hp}{id:Nat}{look:Int->Option AV}{X:Nat->Prop}(h:tZ H id look)(hf:Fr X H H')(hid:id<H.nx)(hx:¬X id):tZ H' id look:=by unfold tZ;rw[hf.get id hid hx];exact h
theorem Vz{P:Program}{kt:TypeId}(hk:bY P kt=1){H:Hp}{z:AV}{id:Nat}{x:Int}{ok:Bool}{look:Int->Option AV}(h:tZ H id look):
  bR P H kt z (.one (.o (.mp id))) (.one (.i .i64 x)) ok=(match look x with|some v=>bO H ok v true|none=>bO H ok z false):=by
 rcases h with⟨es,c,k,h1,h2,h3⟩|⟨k,h1,h2⟩
 ·obtain⟨e,e1,e2⟩:=rD (P:=P) hk x h2;rw[h3]at e2;have E0:jw P es.isEmpty kt (.one (.i .i64 x))=some ():=by unfold jw;rw[hk];rfl
  unfold bR;simp only[h1,E0];show(match mI P kt (.one (.i .i64 x)) es with|some (some e)=>bO H ok e.val true|some none=>bO H ok z false|none=>.bad "lookup - keys")=_
  rw[e1,<-e2];cases e<;>rfl
 unfold bR;simp only[h1];show rS P H kt z (.one (.i .i64 x)) ok k=_;unfold rS;rw[hk];show aN (sameKind .i64 .i64) _ (aG (fq x k) _ _)=_;rw[h2];have:sameKind .i64 .i64=true:=rfl;rw[this];cases look x<;>rfl
def acn(l:List Oper):Bool:=match l with|[]=>false|_=>true
def Hq:List Nat->List Oper->List Nat->Bool
 |_,[],_=>true
 |before,o::os,m::ms=>(Nat.blt (opK o) 4&&dd (plK (acn os) o) m 0 before)&&Hq (before++[opK o]) os ms
 |_,_::_,[]=>false
def SL(E:Env)(Q:ag->Hp->Prop):List (Option (Option Tmp×Bool))->List Oper->ag->Hp->Prop
 |_,[],A,H=>Q A H
 |[],_::_,_,_=>False
 |g::gs,o::l,A,H=>aZ o.dst A.nt=true/\SU (acn l) E o A H (SL E Q gs l) (gw g A.tm)
theorem SL.d1{E:Env}{ops:List Oper}{Q:ag->Hp->Prop}:∀{l:List Oper}{j:Nat}{ms:List Nat}{before:List Nat}{did:List Did}{A:ag}{H:Hp},before.length=j->fA before did->Hq before l ms=true->SL E Q (l.map λo=>gOf ops o.guard) l A H->D1 E (jH E.P ops l) j ms did A H Q
 |[],j,ms,_,_,A,H,_,_,_,h=>D1.nil h
 |o::l,j,[],_,_,A,H,_,_,hs,_=>by cases hs
 |o::l,j,m::ms,before,did,A,H,hj,N2,hs,h=>by
  unfold Hq at hs;rw[aV,aV]at hs;obtain⟨⟨h4,O5⟩,L1⟩:=hs;have h4':opK o<4:=bA h4;obtain⟨hd,hg⟩:=h;have y7:(before++[opK o]).length=j+1:=by simp[hj]
  rcases rI (gOf ops o.guard) A.tm with⟨h1,h2⟩|⟨h1,h2⟩|h1
  ·rw[h1]at hg;exact SK.d1 hj N2 h4' O5 h2 hd (SK.mono hg λA' H' hn did' V'=>SL.d1 y7 V' L1 hn)
  ·rw[h1]at hg;exact D1.skip h2 hd (SL.d1 y7 (N2.more _) L1 hg)
  rw[h1]at hg;exact hg.elim
section
variable{E:Env}{r:Option Nat}{z:Code}{B:ag}{H:Hp}{Q:au->ag->Hp->Prop}
def aaw{E:Env}{Q:ag->Hp->Prop}{gs:List (Option (Option Tmp×Bool))}{A:ag}{H:Hp}:SL E Q gs [] A H=Q A H:=by cases gs<;>rfl
end
theorem qJ:(∀(E:Env)(Q:ag->Hp->Prop)(gs:List (Option (Option Tmp×Bool)))(A:ag)(H:Hp),SL E Q gs [] A H=Q A H) /\
  (∀(E:Env)(Q:ag->Hp->Prop)(g:Option (Option Tmp×Bool))(gs:List (Option (Option Tmp×Bool)))(o:Oper)(A:ag)(H:Hp),SL E Q (g::gs) [o] A H=(aZ o.dst A.nt=true/\SU false E o A H (SL E Q gs []) (gw g A.tm))) /\
  (∀(E:Env)(Q:ag->Hp->Prop)(g:Option (Option Tmp×Bool))(gs:List (Option (Option Tmp×Bool)))(o o2:Oper)(l:List Oper)(A:ag)(H:Hp),SL E Q (g::gs) (o::o2::l) A H=(aZ o.dst A.nt=true/\SU true E o A H (SL E Q gs (o2::l)) (gw g A.tm))):=
 ⟨λ_ _ _ _ _=>aaw,λ_ _ _ _ _ _ _=>rfl,λ_ _ _ _ _ _ _ _ _=>rfl⟩
def FrL(n0:Nat)(H H':Hp):Prop:=∃l,H'.log=l++H.log/\∀i∈l,H.nx<=i\/n0<=i
theorem FrL.new{n0:Nat}{X:Nat->Prop}{H H':Hp}{o:aX}(h:Fr X H H')(hn:n0<=H.nx)(hx:∀i,X i->n0<=i):FrL n0 (H.new o) H':=by obtain⟨l,e,f⟩:=h.log;exact⟨l,e,λi hi=>.inr ((f i hi).elim (aS hn) (hx i))⟩
theorem Bv{wr:List Nat}:∀{us:List Did},(∀u∈us,∀i∈wr,u.U2.get i=none)->iH us wr=true
 |[],_=>rfl
 |x::us,h=>by
  have f1:∀(l:List Nat),(∀i∈l,x.U2.get i=none)->yr x.U2 l=true:=λl=>by
   induction l with
   |nil=>intro _;rfl
   |cons i l ih=>intro hl;show aG (x.U2.get i) (yr x.U2 l) (λ_=>false)=true;rw[hl i (aT ..)];exact ih λk hk=>hl k (aR _ hk)
  show both (yr x.U2 wr) (iH us wr)=true;rw[f1 wr (h x (aT ..)),Bv λu hu=>h u (aR _ hu)];rfl
theorem zc{Z:Did->Prop}{did:List Did}{u:Did}(h:∀u∈did,Z u)(hu:Z u):∀w∈u::did,Z w:=λw hw=>(List.mem_cons.1 hw).elim (λe=>by rw[e];exact hu) (h w)
theorem ZJ{H:Hp}{tm:PT AV}{o:Oper}{us:List Did}(hk:cx o=1){i:Nat}(hi:H.nx<=i):(bu H.t H.nx tm o us).get i=none:=by
 have e:bu H.t H.nx tm o us=dh .leaf H.t ((pH H.t (o.op.operands.toList.flatMap λx=>(ev tm x).ids)).filter λi=>Nat.blt i H.nx&&!us.any (de · i)):=by unfold bu;rw[hk];rfl
 rw[e,rG,ab]
 ·rfl
 rw[xP];intro h;have h2:=h.2;rw[aV]at h2;have:i<H.nx:=bA h2.1;omega
def acA:Code->Nat->Option Code
 |.seq x y,n=>if n=0 then some x else some y
 |.cond _ x y,n=>if n=0 then some x else some y
 |.rangeFunc _ _ x y,n=>if n=0 then some x else some y
 |.block _ x,_=>some x
 |.loop x,_=>some x
 |.scope x,_=>some x
 |_,_=>none
def atC(c:Code):List Nat->Option Code
 |[]=>some c
 |n::p=>match acA c n with|some d=>atC d p|none=>none
def atF(f:Func)(p:List Nat):Option Code:=match f.body with|some c=>atC c p|none=>none
section
variable{E:Env}{r:Option Nat}{z:Code}{B:ag}{H:Hp}{Q:au->ag->Hp->Prop}
def R1.label{id:Nat}(h:Q .normal B H):R1 E r (.label id) B H Q:=⟨0,_,_,_,rfl,h⟩
def R1.Hk{id:Nat}(h:R1 E r z B H Q):R1 E r (.seq (.label id) z) B H Q:=R1.seq (R1.label h)
end
def EO(n0:Nat)(o:Oper)(A:ag):Prop:=opK o=2->∀x∈fH o,ltV (ev A.tm x) n0
def Zq(P n0:Nat)(u:Did):Prop:=((∀i∈u.wr,n0<=i)/\n0<=u.c0)/\(u.idx<P->u.wr=[]/\u.c0=u.c1/\∀i,n0<=i->u.U2.get i=none)
theorem Zq.old{P n0:Nat}{u:Did}(h:Zq P n0 u){i:Nat}(hi:i<n0):de u i=false:=by
 cases ht:de u i with
 |false=>rfl
 |true=>
  rcases pS.1 ht with h1|h1
  ·have:=h.1.1 i h1;omega
  have:=h.1.2;omega
section
variable{st:Bool}{E:Env}{A:ag}{H:Hp}{Q:ag->Hp->Prop}{g:Option (Option Tmp×Bool)}{l:List OF}{j m:Nat}{ms:List Nat}{did:List Did}{before:List Nat}
def abV{P n0:Nat}{o:Oper}(hz:∀u∈did,Zq P n0 u)(Z2:n0<=H.nx)(hjP:¬j<P)(hj:before.length=j)(N2:fA before did)(hk:opK o=3)(R0:eF o=false)(U8:∀u∈bk m did,(u.wr=[]/\u.c0=u.c1)/\∀i,n0<=i->u.U2.get i=none)
  (hg:∀y n:R (ag×Hp),cJ A.tm g y n=y) (hd:aZ o.dst A.nt=true)
  (h:SK true E o A H λA' H'=>FrL n0 H H'/\∀did',fA (before++[3]) did'->(∀u∈did',Zq P n0 u)->n0<=H'.nx->D1 E l (j+1) ms did' A' H' Q):D1 E (⟨g,o.dst,bf E.P o,o⟩::l) j (m::ms) did A H Q:=by
 have G4:=rT hk aU;obtain⟨hl,v,H',hn,U1⟩:=SK.val R0 h;rw[R0]at G4;have hu0:∀u∈bk m did,∀i,de u i=false:=λu hu i=>by
  obtain⟨⟨a,b⟩,_⟩:=U8 u hu;cases ht:de u i with
  |false=>rfl
  |true=>
   rcases pS.1 ht with h|h
   ·rw[a]at h;cases h
   omega
 have S3:=FU (us:=bk m did) G4 hl λu hu i=>hu0 u hu i;generalize V1:bu H.t H.nx A.tm o (bk m did)=sub at S3;refine D1.cons hg hd V1 ?_;have hdo:∀u:Did,u.idx=j->fA (before++[3]) (u::did):=λu y7=>N2.cons (y7.trans hj.symm) aU (λh=>by cases h);rcases TU hk R0 (P:=E.P) _ _ _ _ hn with⟨e1,e2⟩|⟨x,e1,e2⟩|⟨id,x,k,e1,ek,⟨y,hy,hyid⟩,e2⟩
 ·rw[e2 _ S3];subst e1;refine N1.val ⟨fU _,?_⟩;rw[G4];have e3:eM 1 H' ⟨sub,H'.nx,[]⟩ [] []=H'.t:=by show dh H'.t sub (dK H'.nx (H'.nx-H'.nx))=H'.t;rw[ga];rfl
  show D1 E l (j+1) ms _ (cU A o.dst v) ⟨eM 1 H' ⟨sub,H'.nx,[]⟩ [] [],H'.nx,[]++H'.log⟩ Q;rw[e3];exact U1.2 _ (hdo _ rfl) (zc hz ⟨⟨λi hi=>(by cases hi),Z2⟩,λh=>absurd h hjP⟩) Z2
 ·rw[e2 _ S3];subst e1;refine N1.val ⟨fU _,?_⟩;rw[G4];have e3:eM 1 H (Hp.new ⟨sub,H.nx,[]⟩ x) [] []=H.t.set H.nx x:=by show dh H.t (sub.set H.nx x) (dK H.nx (H.nx+1-H.nx))=_;have:H.nx+1-H.nx=1:=aa;rw[this];show PT.put ((sub.set H.nx x).get H.nx) H.t H.nx=_;rw[PT.fE,ad rfl];rfl
  show D1 E l (j+1) ms _ (cU A o.dst v) ⟨eM 1 H (Hp.new ⟨sub,H.nx,[]⟩ x) [] [],H.nx+1,[]++H.log⟩ Q;rw[e3];exact U1.2 _ (hdo _ rfl) (zc hz ⟨⟨λi hi=>(by cases hi),Z2⟩,λh=>absurd h hjP⟩) (tC Z2)
 rw[e2 _ S3];subst e1;have hid:id<H.nx:=hl.mem hy hyid;have hwr:fk sub H.nx [id]=[id]:=by show Eng.ifE (Nat.blt id H.nx) (aG (sub.get id) (fk sub H.nx []) λ_=>id::fk sub H.nx []) (fk sub H.nx [])=_;have f1:Nat.blt id H.nx=true:=bU hid;have f2:sub.get id=some k:=(S3.2 y hy id hyid).trans ek;rw[f1,f2];rfl
 have hge:n0<=id:=by
  obtain⟨lg,e3,f3⟩:=U1.1;have e4:lg=[id]:=(xQ (show[id]++H.log=lg++H.log from e3)).symm;rcases f3 id (by rw[e4];exact List.mem_singleton.2 rfl)with h|h
  ·omega
  exact h
 have hfree:iH (bk m did) (fk sub H.nx [id])=true:=by rw[hwr];exact Bv λu hu i hi=>by rw[List.mem_singleton.1 hi];exact(U8 u hu).2 id hge
 refine N1.val ⟨hfree,?_⟩;rw[G4];have e3:eM 1 H (Hp.mod ⟨sub,H.nx,[]⟩ id x) [] [id]=H.t.set id x:=by show dh H.t (sub.set id x) ([id]++dK H.nx (H.nx-H.nx))=_;rw[ga];show PT.put ((sub.set id x).get id) H.t id=_;rw[PT.fE,ad rfl];rfl
 show D1 E l (j+1) ms _ (cU A o.dst v) ⟨eM 1 H (Hp.mod ⟨sub,H.nx,[]⟩ id x) [] (fk sub H.nx [id]),H.nx,fk sub H.nx [id]++H.log⟩ Q;rw[hwr,e3];have hzz:Zq P n0 ⟨j,sub,H.nx,H.nx,[id]⟩:=⟨⟨λi hi=>by rw[List.mem_singleton.1 hi];exact hge,Z2⟩,λh=>absurd h hjP⟩;exact U1.2 _ (hdo _ rfl) (zc hz (show Zq P n0 ⟨j,sub,H.nx,H.nx,fk sub H.nx [id]⟩ by rw[hwr];exact hzz)) Z2
variable{n0:Nat}
def q_d1{P:Nat}{o:Oper}(hj:before.length=j)(N2:fA before did)(hz:∀u∈did,Zq P n0 u)(Z2:n0<=H.nx)(h4:(Nat.blt (opK o) 3||eF o)=true)(hs:(Nat.beq (opK o) 2||dd (plK true o) m 0 before)=true)(h0:j<P->(opK o=0\/opK o=2)/\H.nx=n0)(ho:EO n0 o A)
  (hg:∀y n:R (ag×Hp),cJ A.tm g y n=y) (hd:aZ o.dst A.nt=true)
  (h:SK true E o A H λA' H'=>∀did',fA (before++[opK o]) did'->(∀u∈did',Zq P n0 u)->n0<=H'.nx->(j<P->H'.nx=n0)->D1 E l (j+1) ms did' A' H' Q):D1 E (⟨g,o.dst,bf E.P o,o⟩::l) j (m::ms) did A H Q:=by
 cases R0:eF o with
 |true=>
  have hk:opK o=3:=by
   obtain⟨dst,op,type,pos,after,guard⟩:=o;cases op with
   |call c=>
    obtain⟨ce,as,ts⟩:=c;cases ce with
    |value f=>rfl
    |invoke _ _=>cases R0
    |builtin _=>cases R0
   |_=>cases R0
  have hjP:¬j<P:=λhP=>by have:=(h0 hP).1;omega
  obtain⟨d,f,as,ts,ty,pos,af,gd,rfl⟩:=Eu hk R0;have u_:dd 6 m 0 before=true:=hs;have hlk2:cx ⟨d,.call ⟨.value f,as,ts⟩,ty,pos,af,gd⟩=2:=rfl;have hwe:WE true E A d (λA H=>∀did',fA (before++[3]) did'->(∀u∈did',Zq P n0 u)->n0<=H.nx->(j<P->H.nx=n0)->D1 E l (j+1) ms did' A H Q) H ((bf E.P ⟨d,.call ⟨.value f,as,ts⟩,ty,pos,af,gd⟩).run A.tm H):=h;obtain⟨_,hcn⟩:=WE.inv hwe;have T6:(bk m did).flatMap ia=[]:=by rw[xc];intro i hi;obtain⟨u,hu,hiu⟩:=List.mem_flatMap.1 hi;rw[yD,N2.aal u_ u hu i]at hiu;cases hiu
  have hwr:∀{h':Hp},Gr ⟨H.t,H.nx,[]⟩ h'->fk H.t H.nx h'.log=[]:=λ{h'}hg=>by
   obtain⟨lg,e,hl⟩:=hg.log;rw[xc];intro i hi;obtain⟨a1,a2,_⟩:=mP.1 hi;rw[e,List.append_nil]at a1;rcases hl i a1 with h|h
   ·have h':H.nx<=i:=h;omega
   exact h
  have V1:bu H.t H.nx A.tm ⟨d,.call ⟨.value f,as,ts⟩,ty,pos,af,gd⟩ (bk m did)=H.t:=by unfold bu;rw[hlk2];show rf H.t ((bk m did).flatMap ia)=H.t;rw[T6];rfl
  refine D1.cons hg hd V1 ?_;have x_:(bf E.P ⟨d,.call ⟨.value f,as,ts⟩,ty,pos,af,gd⟩).run A.tm ⟨H.t,H.nx,[]⟩=(bf E.P ⟨d,.call ⟨.value f,as,ts⟩,ty,pos,af,gd⟩).run A.tm H:=rfl;rw[x_];refine(hcn []).mono λv h'⟨W0,U1⟩=>⟨by rw[hwr (W0 rfl)];exact fU _,?_⟩;rw[hlk2,hwr (W0 rfl)];have e1:eM 2 H h' (bk m did) []=h'.t:=by show dh h'.t H.t ((bk m did).flatMap ia)=h'.t;rw[T6];rfl
  rw[e1];have S0:H.nx<=h'.nx:=(W0 rfl).nx;refine U1 ([]++H.log) (λX hf=>⟨hf.nx,hf.get,[],rfl,λi hi=>(by cases hi)⟩) _ ?_ ?_ (aS Z2 S0) (λh=>absurd h hjP)
  ·have e2:note 2 j H.t H h' did []=⟨j,H.t,H.nx,h'.nx,[]⟩::did:=rfl;rw[e2];exact N2.cons hj.symm aU (λh=>by cases h)
  have e2:note 2 j H.t H h' did []=⟨j,H.t,H.nx,h'.nx,[]⟩::did:=rfl;rw[e2];exact zc hz ⟨⟨λi hi=>(by cases hi),Z2⟩,λh=>absurd h hjP⟩
 |false=>
  rw[R0,Bool.or_false]at h4;have h4':opK o<3:=bA h4;generalize hk:opK o=k at h4' hs h h0;have G4:=rT hk aa;obtain⟨hl,v,H',hn,U1⟩:=SK.val R0 h;rw[R0]at G4;match k,hk,h4',hs,G4,h0 with
  |0,hk,_,hs,G4,h0=>
   rcases Qa hk (P:=E.P) (tm:=A.tm)with⟨v',hp⟩|hp
   ·have e:=(hp H).symm.trans hn;injection e with e1 e2
    subst e1 e2;exact D1.pure hg hd G4 (hp _) (U1 _ (N2.more 0) hz Z2 λh=>(h0 h).2)
   exact absurd hn (hp _ _ _)
  |1,hk,_,hs,G4,h0=>
   obtain⟨x,e1,e2⟩:=PZ hk (P:=E.P) (tm:=A.tm) _ _ _ hn;subst e1;refine D1.make hg hd G4 (e2 ⟨.leaf,H.nx,[]⟩ rfl) (U1 _ (N2.cons hj.symm aU (λh=>by cases h)) (zc hz ⟨⟨λi hi=>(by cases hi),Z2⟩,λh=>?_⟩) (tC Z2) λh=>?_)
   ·have:=(h0 h).1;omega
   have:=(h0 h).1;omega
  |2,hk,_,hs,G4,h0=>
   obtain⟨e1,e2⟩:=FD hk (P:=E.P) _ _ _ _ hn;subst e1;have S3:Agr o A.tm H' ⟨bu H'.t H'.nx A.tm o (bk m did),H'.nx,[]⟩:=⟨rfl,λx hx id hid=>Ld G4 (BM hx) hid (hl.mem hx hid) λu hm=>by exact(hz u (dJ.1 hm).1).old (ho hk _ hx _ hid)⟩
   refine D1.look hg hd G4 (e2 _ S3) λsub V1=>U1 _ (N2.cons hj.symm aU (λ_=>⟨rfl,rfl⟩)) (zc hz ⟨⟨λi hi=>(by cases hi),Z2⟩,λh=>⟨rfl,rfl,λi hi=>?_⟩⟩) Z2 λh=>(h0 h).2;subst V1;exact ZJ G4 (by have:=(h0 h).2;omega)
  |k+3,_,h4',_,_,_=>omega
end
def BV(m P:Nat):Nat->List Nat->Bool
 |_,[]=>true
 |i,ki::ks=>(Nat.testBit m i||(Nat.beq ki 0||Nat.blt i P))&&BV m P (i+1) ks
theorem EW{m P:Nat}:∀{ks:List Nat}{i:Nat},BV m P i ks=true->∀n k,ks[n]?=some k->Nat.testBit m (i+n)=true\/k=0\/i+n<P
 |[],i,_,n,k,h=>by cases h
 |x::ks,i,hp,0,k,h=>by
  cases h
  unfold BV at hp;rw[aV,iZ,iZ]at hp;exact hp.1.imp id λh=>h.imp aO bA
 |x::ks,i,hp,n+1,k,h=>by unfold BV at hp;rw[aV]at hp;have:=EW hp.2 n k h;have e:i+(n+1)=i+1+n:=aa;rw[e];exact this
def Uu:List Oper->Nat
 |[]=>0
 |o::l=>bif Nat.beq (opK o) 0||Nat.beq (opK o) 2 then Uu l+1 else 0
def rH(o:Oper):Bool:=Nat.beq (opK o) 3&&!eF o
def KS(P:Nat):Nat->Nat->List Nat->List Oper->List Nat->Bool
 |0,_,before,l,ms=>Hq before l ms
 |_+1,_,_,[],_=>true
 |k+1,j,before,o::os,m::ms=>((bif rH o then BV m P 0 before else((Nat.blt (opK o) 3||eF o)&&(Nat.beq (opK o) 2||dd (plK true o) m 0 before)))&&(Nat.ble P j||(Nat.beq (opK o) 0||Nat.beq (opK o) 2)))&&KS P k (j+1) (before++[opK o]) os ms
 |_+1,_,_,_::_,[]=>false
def PR(k:Nat)(ops:Array Oper):Bool:=iu ops&&KS (Uu ops.toList) k 0 [] ops.toList (gR [] 0 ops.toList)
def SUq(n0:Nat)(E:Env)(o:Oper)(A:ag)(H:Hp)(next:ag->Hp->Prop)(g:GW):Prop:=
 match g with
 |.yes=>bif rH o then SK true E o A H (λA' H'=>FrL n0 H H'/\next A' H')else EO n0 o A/\SK true E o A H next
 |.no=>next (cU A o.dst aQ) H
 |.lost=>False
def SMq(E:Env)(Q:ag->Hp->Prop)(n0:Nat):Nat->List (Option (Option Tmp×Bool))->List Oper->ag->Hp->Prop
 |0,gs,l,A,H=>SL E Q gs l A H
 |_+1,_,[],A,H=>Q A H
 |_+1,[],_::_,_,_=>False
 |k+1,g::gs,o::l,A,H=>aZ o.dst A.nt=true/\SUq n0 E o A H (SMq E Q n0 k gs l) (gw g A.tm)
theorem SMq.d1{E:Env}{ops:List Oper}{Q:ag->Hp->Prop}{P n0:Nat}:∀{k:Nat}{l:List Oper}{j:Nat}{ms:List Nat}{before:List Nat}{did:List Did}{A:ag}{H:Hp},before.length=j->fA before did->(∀u∈did,Zq P n0 u)->n0<=H.nx->(j<=P->H.nx=n0)->KS P k j before l ms=true ->
  SMq E Q n0 k (l.map λo=>gOf ops o.guard) l A H->D1 E (jH E.P ops l) j ms did A H Q
 |0,l,j,ms,_,_,A,H,hj,N2,_,_,_,hs,h=>SL.d1 hj N2 (by unfold KS at hs;exact hs) (by unfold SMq at h;exact h)
 |_+1,[],j,ms,_,_,A,H,_,_,_,_,_,_,h=>D1.nil h
 |_+1,o::l,j,[],_,_,A,H,_,_,_,_,_,hs,_=>by cases hs
 |k+1,o::l,j,m::ms,before,did,A,H,hj,N2,hz,Z2,hP,hs,h=>by
  unfold KS at hs;rw[aV,aV]at hs;obtain⟨⟨O5,hp⟩,L1⟩:=hs;obtain⟨hd,hg⟩:=h;have y7:(before++[opK o]).length=j+1:=by simp[hj]
  have B3:j<P->opK o=0\/opK o=2:=λB0=>by
   rw[iZ,iZ]at hp;rcases hp with hp|hp
   ·have:=bA hp;omega
   exact hp.imp aO aO
  rcases rI (gOf ops o.guard) A.tm with⟨h1,h3⟩|⟨h1,h3⟩|h1
  ·rw[h1]at hg;cases W0:rH o with
   |true=>
    rw[W0]at O5;have hg:SK true E o A H (λA' H'=>FrL n0 H H'/\SMq E Q n0 k (l.map λo=>gOf ops o.guard) l A' H'):=by have hg2:(bif rH o then SK true E o A H (λA' H'=>FrL n0 H H'/\SMq E Q n0 k (l.map λo=>gOf ops o.guard) l A' H')else EO n0 o A/\SK true E o A H (SMq E Q n0 k (l.map λo=>gOf ops o.guard) l)):=hg;rw[W0]at hg2;exact hg2
    have S9:=W0;unfold rH at S9;rw[aV]at S9;have hk:opK o=3:=aO S9.1;have R0:eF o=false:=by simpa using S9.2
    have hjP:¬j<P:=λh=>by have:=B3 h;omega
    have U8:∀u∈bk m did,(u.wr=[]/\u.c0=u.c1)/\∀i,n0<=i->u.U2.get i=none:=λu hu=>by
     obtain⟨a1,a2⟩:=dJ.1 hu;obtain⟨ku,b1,b2,_⟩:=N2 u a1;rcases EW O5 u.idx ku b1 with h|h|h
     ·rw[Nat.zero_add,a2]at h;cases h
     ·exact absurd h b2
     obtain⟨c1,c2,c3⟩:=(hz u a1).2 aa;exact⟨⟨c1,c2⟩,c3⟩
    rw[hk]at y7 L1;exact abV hz Z2 hjP hj N2 hk R0 U8 h3 hd (SK.mono hg λA' H' hn=>⟨hn.1,λdid' V' hz' x_=>SMq.d1 y7 V' hz' x_ (λh=>aa) L1 hn.2⟩)
   |false=>
    rw[W0,cond_false,aV]at O5;have hg:EO n0 o A/\SK true E o A H (SMq E Q n0 k (l.map λo=>gOf ops o.guard) l):=by have hg2:(bif rH o then SK true E o A H (λA' H'=>FrL n0 H H'/\SMq E Q n0 k (l.map λo=>gOf ops o.guard) l A' H')else EO n0 o A/\SK true E o A H (SMq E Q n0 k (l.map λo=>gOf ops o.guard) l)):=hg;rw[W0]at hg2;exact hg2
    exact q_d1 hj N2 hz Z2 O5.1 O5.2 (λh=>⟨B3 h,hP (mY h)⟩) hg.1 h3 hd (SK.mono hg.2 λA' H' hn did' V' hz' x_ hP'=>SMq.d1 y7 V' hz' x_ (λh=>hP' aa) L1 hn)
  ·rw[h1]at hg;exact D1.skip h3 hd (SMq.d1 y7 (N2.more _) hz Z2 (λh=>hP aa) L1 hg)
  rw[h1]at hg;exact hg.elim
section
variable{E:Env}{r:Option Nat}{z:Code}{B:ag}{H:Hp}{Q:au->ag->Hp->Prop}
def R1.smq{id:Nat}{ops:Array Oper}(k:Nat)(hs:PR k ops=true)(h:SMq E (λA H=>Q .normal A H) H.nx k (ops.toList.map λo=>gOf ops.toList o.guard) ops.toList B H):R1 E r (.region id ops true) B H Q:=by unfold PR at hs;rw[aV]at hs;exact R1.draw hs.1 (SMq.d1 rfl (λu hu=>by cases hu) (λu hu=>by cases hu) (ai _) (λ_=>rfl) hs.2 h)
def R1.s_q{id:Nat}{ops:Array Oper}(k:Nat)(hs:PR k ops=true)(h:∀K:ag->Hp->Prop,Hd (∀B H,R1 E r z B H Q->K B H)->SMq E K H.nx k (ops.toList.map λo=>gOf ops.toList o.guard) ops.toList B H):R1 E r (.seq (.region id ops true) z) B H Q:=
 R1.seq (R1.smq k hs (h _ λ_ _ h=>h))
def R1.e_q{id:Nat}{ops:Array Oper}(k:Nat)(hs:PR k ops=true)(h:∀K:ag->Hp->Prop,Hd (∀B H,Q .normal B H->K B H)->SMq E K H.nx k (ops.toList.map λo=>gOf ops.toList o.guard) ops.toList B H):R1 E r (.region id ops true) B H Q:=
 R1.smq k hs (h _ λ_ _ h=>h)
end
section
variable{E:Env}{Q next:ag->Hp->Prop}{n0 k f n:Nat}{gs:List (Option (Option Tmp×Bool))}{g:Option (Option Tmp×Bool)}{o:Oper}{l:List Oper}{A:ag}{H:Hp}{d:Option Tmp}{t u ty:TypeId}{x y w:Operand}{b:BinOp}{c:UnOp}{ok:Bool}{as:Array Operand}{ts:Array TypeId}{fs:Array (Nat×Operand)}{pos:String}{af:Array Edge}{gd:Option (Nat×Bool)}
def ZV:SMq E Q n0 0 gs l A H=SL E Q gs l A H:=by unfold SMq;rfl
def ZX:SMq E Q n0 (k+1) gs [] A H=Q A H:=by cases gs<;>rfl
def ZW:SMq E Q n0 (k+1) (g::gs) (o::l) A H=(aZ o.dst A.nt=true/\SUq n0 E o A H (SMq E Q n0 k gs l) (gw g A.tm)):=rfl
def SZ:SUq n0 E o A H next .no=next (cU A o.dst aQ) H:=rfl
def oE{P:Prop}(h:rH o=false)(h2:Nat.beq (opK o) 2=false)(e:SK true E o A H next=P):SUq n0 E o A H next .yes=P:=by subst e;unfold SUq;rw[h];exact propext ⟨λh=>h.2,λh=>⟨λe=>(by rw[e]at h2;cases h2),h⟩⟩
def Ta(h:rH o=false)(h2:opK o=2)(h3:fH o=[x]):SUq n0 E o A H next .yes=(ltV (ev A.tm x) n0/\SK true E o A H next):=by unfold SUq EO;rw[h,h3];exact propext (and_congr_left' ⟨λh=>h h2 _ (List.mem_singleton.2 rfl),λh _ z hz=>by rw[List.mem_singleton.1 hz];exact h⟩)
def Ij:SUq n0 E ⟨d,.load t x,ty,pos,af,gd⟩ A H next .yes=(ltV (ev A.tm x) n0/\SK true E ⟨d,.load t x,ty,pos,af,gd⟩ A H next):=Ta rfl rfl rfl
def Ax:SUq n0 E ⟨d,.lookup t x y ok,ty,pos,af,gd⟩ A H next .yes=(ltV (ev A.tm x) n0/\SK true E ⟨d,.lookup t x y ok,ty,pos,af,gd⟩ A H next):=Ta rfl rfl rfl
def NU:SUq n0 E ⟨d,.call ⟨.builtin .len,⟨[x]⟩,⟨[t]⟩⟩,ty,pos,af,gd⟩ A H next .yes=(ltV (ev A.tm x) n0/\SK true E ⟨d,.call ⟨.builtin .len,⟨[x]⟩,⟨[t]⟩⟩,ty,pos,af,gd⟩ A H next):=Ta rfl rfl rfl
def NQ:SUq n0 E ⟨d,.call ⟨.builtin .append,⟨[x,y]⟩,⟨[t,u]⟩⟩,ty,pos,af,gd⟩ A H next .yes=SK true E ⟨d,.call ⟨.builtin .append,⟨[x,y]⟩,⟨[t,u]⟩⟩,ty,pos,af,gd⟩ A H (λA' H'=>FrL n0 H H'/\next A' H'):=rfl
def Ii:SUq n0 E ⟨d,.call ⟨.value x,as,ts⟩,ty,pos,af,gd⟩ A H next .yes=SK true E ⟨d,.call ⟨.value x,as,ts⟩,ty,pos,af,gd⟩ A H next:=oE rfl rfl rfl
def Ik:SUq n0 E ⟨d,.move x,ty,pos,af,gd⟩ A H next .yes=next (cU A d (ev A.tm x)) H:=oE rfl rfl FQ
def Aw:SUq n0 E ⟨d,.assign x,ty,pos,af,gd⟩ A H next .yes=next (cU A d (ev A.tm x)) H:=oE rfl rfl xg
def va:SUq n0 E ⟨d,.nilCheck x,ty,pos,af,gd⟩ A H next .yes=SK true E ⟨d,.nilCheck x,ty,pos,af,gd⟩ A H next:=oE rfl rfl rfl
def SX:SUq n0 E ⟨d,.fieldAddr t x f,ty,pos,af,gd⟩ A H next .yes=SK true E ⟨d,.fieldAddr t x f,ty,pos,af,gd⟩ A H next:=oE rfl rfl rfl
def SY:SUq n0 E ⟨d,.indexAddr t x y,ty,pos,af,gd⟩ A H next .yes=SK true E ⟨d,.indexAddr t x y,ty,pos,af,gd⟩ A H next:=oE rfl rfl rfl
def Dp:SUq n0 E ⟨d,.build t fs,ty,pos,af,gd⟩ A H next .yes=SK true E ⟨d,.build t fs,ty,pos,af,gd⟩ A H next:=oE rfl rfl rfl
def SW:SUq n0 E ⟨d,.buildSlice t n fs,ty,pos,af,gd⟩ A H next .yes=SK true E ⟨d,.buildSlice t n fs,ty,pos,af,gd⟩ A H next:=oE rfl rfl rfl
def NR:SUq n0 E ⟨d,.binOp b t x y u,ty,pos,af,gd⟩ A H next .yes=SK true E ⟨d,.binOp b t x y u,ty,pos,af,gd⟩ A H next:=oE rfl rfl rfl
def Tb:SUq n0 E ⟨d,.unOp c t x,ty,pos,af,gd⟩ A H next .yes=SK true E ⟨d,.unOp c t x,ty,pos,af,gd⟩ A H next:=oE rfl rfl rfl
def Il:SUq n0 E ⟨d,.pick x y w,ty,pos,af,gd⟩ A H next .yes=SK true E ⟨d,.pick x y w,ty,pos,af,gd⟩ A H next:=oE rfl rfl rfl
def Dm:SUq n0 E ⟨d,.alloc t,ty,pos,af,gd⟩ A H next .yes=SK true E ⟨d,.alloc t,ty,pos,af,gd⟩ A H next:=oE rfl rfl rfl
def NT:SUq n0 E ⟨d,.box t x,ty,pos,af,gd⟩ A H next .yes=SK true E ⟨d,.box t x,ty,pos,af,gd⟩ A H next:=oE rfl rfl rfl
end
theorem qQ:type_of% (zDm @ZV @ZX @ZW @SZ @Ij @Ax @NU @NQ @Ii @Ik @Aw (zDk @va @SX @SY @Dp @SW @NR @Tb @Il @Dm @NT)):=zDm @ZV @ZX @ZW @SZ @Ij @Ax @NU @NQ @Ii @Ik @Aw (zDk @va @SX @SY @Dp @SW @NR @Tb @Il @Dm @NT)
theorem FrL.of{n0:Nat}{X:Nat->Prop}{H H':Hp}(h:Fr X H H')(hx:∀i,X i->n0<=i):FrL n0 H H':=by obtain⟨l,e,f⟩:=h.log;exact⟨l,e,λi hi=>(f i hi).imp id (hx i)⟩
theorem Oe{P:Program}{H:Hp}{t e:TypeId}{sz by_ n:Nat}{z:Value}{v:AC}{cells:List AC}(he:cG P t=some (e,sz))(hb:dB P e=some by_)(hz:aW P e=some z)(Q1:(ofValue z).cells.length=sz)(B2:sz≠0)
  (hv:SlC H v sz n cells) (h2:n<=140737488355328/\n*by_<=140737488355328):∃v' H',bM P H t (.one (.o .nilS)) (.one v)=.val (.one v') H'/\SlC H' v' sz n cells/\(∀id∈(AV.one v').ids,H.nx<=id)/\Gr H H':=by
 obtain⟨v',H',r',h1,h2,h3,h4⟩:=FV he hb hz Q1 B2 hv h2;refine⟨v',H',h1,h2.slc,λi hi=>?_,h3⟩;rcases h2 with⟨rfl,_⟩|⟨id,_,_,hr,rfl,_⟩
 ·cases hi
 rw[List.mem_singleton.1 hi];exact h4 id hr
theorem zQ{p a b:Prop}(f:p)(hb:b)(e:p->Hd b->a:=by intro f hW;simp only[qB,qQ,qJ,aZ,Nat.reduceLT,Nat.reduceEqDiff,Nat.reduceLeDiff,reduceIte,Nat.reduceAdd,Nat.reduceSub,Nat.reduceMul,Int.reduceLT,Int.reduceLE,Int.reduceBEq, *];exact hW.out):a:=e f hb
theorem zO{p a b:Prop}(f:p)(hb:b)(e:p->Hd b->a:=by
  intro f hW;repeat refine R1.aJ ?_
  (first|refine R1.s_q 1000 ae λK hK=>?_|refine R1.e_q 1000 ae λK hK=>?_)
  simp only[qB,qQ,aZ,Nat.reduceLT,Nat.reduceEqDiff,Nat.reduceLeDiff,reduceIte,Nat.reduceAdd,Nat.reduceSub,Nat.reduceMul,Int.reduceLT,Int.reduceLE,Int.reduceBEq, *];revert K
  exact hW.out):a:=e f hb
end Go.Eng

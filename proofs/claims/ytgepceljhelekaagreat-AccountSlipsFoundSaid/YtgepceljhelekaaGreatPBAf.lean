/- A part of the proof. -/
import Derived.Test.YtgepceljhelekaaGreatPBAe
import Derived.Deep.Slices
import Derived.SizedLaws
import Derived.KernelRfl
set_option maxRecDepth 100000
set_option maxHeartbeats 64000000
set_option linter.all false
namespace Go.Eng
open Go
def R1.mh{E:Env}{r:Option Nat}{A:ag}{H:Hp}{Q:ax->ag->Hp->Prop}{id:Nat}{c:Code}(h:∀K:ax->ag->Hp->Prop,(∀A H,Q .normal A H->K .normal A H)->(∀A H,Q .normal A H->K (.exit id) A H)->(∀i A H,i≠id->Q (.exit i) A H->K (.exit i) A H)->(∀A H,Q .ret A H->K .ret A H)->R1 E r c A H K):R1 E r (.block id c) A H Q:=by
 refine R1.block (h _ (λ_ _ h=>h) (λA H h=>?_) (λi A H hi h=>?_) λ_ _ h=>h)
 ·show if id=id then Q .normal A H else Q (.exit id) A H;rw[ad rfl];exact h
 show if i=id then Q .normal A H else Q (.exit i) A H;rw[ab hi];exact h
structure Sm(L:Nat)(H H':Hp):Prop where
 nx:H.nx<=H'.nx
 get:∀i,i<H.nx->i≠L->H'.get i=H.get i
def Sm.refl{L:Nat}(H:Hp):Sm L H H:=⟨ai _,λ_ _ _=>rfl⟩
def Sm.same{L:Nat}{H H':Hp}(ht:H'.t=H.t)(hn:H'.nx=H.nx):Sm L H H':=⟨mS hn.symm,λi _ _=>by show H'.t.get i=H.t.get i;rw[ht]⟩
def Sm.trans{L:Nat}{H H1 H2:Hp}(h:Sm L H H1)(k:Sm L H1 H2):Sm L H H2:=
 ⟨aD h.nx k.nx,λi hi hn=>(k.get i (ay hi h.nx) hn).trans (h.get i hi hn)⟩
def Sm.mod{L:Nat}(H:Hp)(o:aX):Sm L H (H.mod L o):=⟨ai _,λi _ hn=>az hn⟩
def aav(E:Env)(n:aj)(H:Hp)(X:Nat->Prop)(Q:AV->Hp->Prop):Prop:=
 ∀lg,N1 E ⟨H.t,H.nx,lg⟩ n λv h'=>Fr X ⟨H.t,H.nx,lg⟩ h'/\∀lg',Q v ⟨h'.t,h'.nx,lg'⟩
section
variable{E:Env}{H:Hp}{X:Nat->Prop}{Q:AV->Hp->Prop}
def WE.aaE{A:ag}{d:Option Tmp}{next:ag->Hp->Prop}{id:Nat}{args:List AV}(h:aav E (.round id args) H X Q)(hn:∀v H',Fr X H H'->Q v H'->next (cE A d v) H'):WE false E A d next H (.round id args):=λlg=>
 (h lg).mono λ_ _⟨h1,h2⟩=>⟨λh=>(by cases h),λlg' hx=>hn _ _ (hx X h1) (h2 lg')⟩
def CE{P:Program}{id:Nat}{args:List AV}:tG P (.one (.o (.yl id))) args=.round id args:=rfl
end
def fB(tm:PT AV)(nt:Nat)(ps:List Tmp)(as bo:Code)(d:Nat)(st:LoopState)(pe:Option Code):aX:=.oth (.loop st pe tm nt ps as bo d)
def Lm(tm:PT AV)(nt:Nat)(ps:List Tmp)(as bo:Code)(d:Nat):ax->aX
 |.normal=>fB tm nt ps as bo d .ready none
 |.ret=>fB tm nt ps as bo d .done (some .ret)
 |.exit k=>fB tm nt ps as bo d .done (some (.exit k))
def Lw:ax->Bool
 |.normal=>true
 |_=>false
def N1.round{E:Env}{H:Hp}{L:Nat}{args:List AV}{Q:AV->Hp->Prop}{tm:PT AV}{nt:Nat}{ps:List Tmp}{as bo:Code}{d:Nat}
  (hg:H.get L=some (fB tm nt ps as bo d .ready none)) (hl:args.length=ps.length) (hp:(ps.all λp=>Nat.blt p nt)=true)
  (h:R1 E (some L) as ⟨gG ps args tm,nt,[]⟩ H λe A1 H1=>e=.normal/\H1.get L=some (fB tm nt ps as bo d .ready none) /\
   R1 E (some L) bo A1 (H1.mod L (fB tm nt ps as bo d .busy none)) λe A2 H2=>A2.dfr=[]/\H2.get L=some (fB tm nt ps as bo d .busy none)/\Q (.one (.b (Lw e))) (H2.mod L (Lm tm nt ps as bo d e))):
  N1 E H (.round L args) Q:=by
 obtain⟨n,e,A1,H1,h1,rfl,h2,k,e2,A2,H2,h3,h4,h5,h6⟩:=h;refine⟨max n k+1,.one (.b (Lw e2)),H2.mod L (Lm tm nt ps as bo d e2),?_,h6⟩;have a1:=fQ (eL E (rO n k)) as (some L) _ _ _ h1;have a2:=fQ (eL E (pd n k)) bo (some L) _ _ _ h3;show iL (eval E (max n k+1)) L args H=_;unfold iL;rw[hg];have hb:both (Nat.beq (vk args) (vk ps)) (ps.all λp=>Nat.blt p nt)=true:=by
  rw[hp];have:Nat.beq (vk args) (vk ps)=true:=by rw[show vk args=vk ps from hl];exact cN _
  rw[this];rfl
 show Eng.ifE (both (Nat.beq (vk args) (vk ps)) (ps.all λp=>Nat.blt p nt)) (((eval E (max n k+1)).code (some L) as ⟨gG ps args tm,nt,[]⟩ H).bind (fW (eval E (max n k+1)) L bo)) _=_;rw[hb];have c1:(eval E (max n k+1)).code (some L) as ⟨gG ps args tm,nt,[]⟩ H=.ok [(.normal,A1,H1)]:=a1;show((eval E (max n k+1)).code (some L) as ⟨gG ps args tm,nt,[]⟩ H).bind (fW (eval E (max n k+1)) L bo)=_;rw[c1];show fW (eval E (max n k+1)) L bo (.normal,A1,H1)=_;unfold fW;simp only[h2];show((eval E (max n k+1)).code (some L) bo A1 (H1.mod L (fB tm nt ps as bo d .busy none))).bind (lN L)=_;have c2:(eval E (max n k+1)).code (some L) bo A1 (H1.mod L (fB tm nt ps as bo d .busy none))=.ok [(e2,A2,H2)]:=a2;rw[c2];show lN L (e2,A2,H2)=_;unfold lN;simp only[h4,h5];cases e2<;>rfl
structure YB(E:Env)(L:Nat)(n:Nat)(ar:Nat->List AV)(D:Nat->Prop)(σ:Type)where
 J:Nat->σ->Hp->Prop
 F:σ->Hp->Prop
 fp:σ->Nat->Prop
 hJ:∀{i s H H'},J i s H->H.nx<=H'.nx->(∀k,k<H.nx->H'.get k=H.get k)->J i s H'
 hF:∀{s H H'},F s H->H.nx<=H'.nx->(∀k,k<H.nx->H'.get k=H.get k)->F s H'
 hl:∀{i s H k},J i s H->fp s k->k<H.nx/\¬D k
 pass:∀i s H,i<n->J i s H->aav E (.round L (ar i)) H (fp s) λv H'=>∃b s',v=.one (.b b)/\(b=true->J (i+1) s' H')/\(b=false->F s' H')/\∀k,fp s' k->fp s k\/H.nx<=k
def ItC(E:Env)(g:FuncId)(caps:List (Nat×Nat×Nat×Nat))(n:Nat)(ar:Nat->List AV)(D:Nat->Prop)(H0:Hp):Prop:=
 ∀(σ:Type)(L:Nat)(B:YB E L n ar D σ)(s:σ)(H:Hp),H0.nx<=H.nx->(∀k,k<H0.nx->H.get k=H0.get k)->B.J 0 s H ->
  Con E g (.one (.o (.yl L))::gi caps) H (B.fp s) λ_ H'=>∃s',(B.J n s' H'\/B.F s' H')/\∀k,B.fp s' k->B.fp s k\/H.nx<=k
def C1.ZT{E:Env}{f:FuncId}{args:List AV}{H:Hp}{X:Nat->Prop}{Q:AV->Hp->Prop}(hp:E.eu f args=none)(h:Con E f args H X Q)(hq:E.dW f args H=none:=by rfl):C1 E f args H λv H'=>Fr X H H'/\Q v H':=by obtain⟨n,v,H',h1,h2,h3⟩:=h H.log;have W5:pY E (eval E n) f args H=.ok [(v,H')]:=h1;unfold pY at W5;rw[hp]at W5;have W5:aB (E.dW f args ⟨H.t,H.nx,H.log⟩) ((eval E n).call f args ⟨H.t,H.nx,H.log⟩) (λx=>.ok [(x.1,(⟨H.t,H.nx,H.log⟩:Hp).mod x.2.1 x.2.2)])=.ok [(v,H')]:=W5;have hq':E.dW f args ⟨H.t,H.nx,H.log⟩=none:=hq;rw[hq']at W5;exact⟨n,v,H',W5,h2,h3 H'.log⟩
def R1.ZX{E:Env}{A:ag}{H:Hp}{Q:ax->ag->Hp->Prop}{f:Operand}{params:Array Tmp}{as bo:Code}{g:FuncId}{caps:List (Nat×Nat×Nat×Nat)}
  (hf:ev A.tm f=.one (.o (.clo g caps))) (hb:aq E.P g=true)
  (h:C1 E g (.one (.o (.yl (H.nx+1)))::gi caps) ((H.new (.oth (.dfr true))).new (fB A.tm A.nt params.toList as bo H.nx .ready none)) λ_ H3=>
   ∃e,H3.get (H.nx+1)=some (Lm A.tm A.nt params.toList as bo H.nx e)/\∀o,Q e ⟨A.tm,A.nt,H.nx::A.dfr⟩ (H3.mod (H.nx+1) o)):
  R1 E none (.rangeFunc f params as bo) A H Q:=by
 obtain⟨n,v,H3,h1,e,h2,h3⟩:=h;have key:∀o,fV (H.nx+1) ⟨A.tm,A.nt,H.nx::A.dfr⟩ (v,H3)=.ok [(e,⟨A.tm,A.nt,H.nx::A.dfr⟩,H3.mod (H.nx+1) o)]->R1 E none (.rangeFunc f params as bo) A H Q:=λo ho=>by
  refine⟨n,e,⟨A.tm,A.nt,H.nx::A.dfr⟩,H3.mod (H.nx+1) o,?_,h3 o⟩;show jw E (eval E n) none (opF f) params.toList as bo A H=_;unfold jw;show(match(opF f).ev A.tm with
   |.one (.o (.clo g caps))=>Eng.ifE (aq E.P g) (((eval E n).call g (.one (.o (.yl (H.nx+1)))::gi caps) ((H.new (.oth (.dfr true))).new (fB A.tm A.nt params.toList as bo H.nx .ready none))).bind (fV (H.nx+1) ⟨A.tm,A.nt,H.nx::A.dfr⟩)) (.bad "rangeFunc - no body")
   |_=>.bad "rangeFunc - no function")=_
  have hf':(opF f).ev A.tm=.one (.o (.clo g caps)):=hf;rw[hf'];show Eng.ifE (aq E.P g) _ _=_;rw[hb];show((eval E n).call g (.one (.o (.yl (H.nx+1)))::gi caps) ((H.new (.oth (.dfr true))).new (fB A.tm A.nt params.toList as bo H.nx .ready none))).bind (fV (H.nx+1) ⟨A.tm,A.nt,H.nx::A.dfr⟩)=_;rw[h1];exact ho
 cases e with
 |normal=>exact key _ (by unfold fV;simp only[h2,Lm,fB];rfl)
 |ret=>exact key _ (by unfold fV;simp only[h2,Lm,fB];rfl)
 |exit i=>exact key _ (by unfold fV;simp only[h2,Lm,fB];rfl)
def R1.range{E:Env}{A:ag}{H:Hp}{Q:ax->ag->Hp->Prop}{f:Operand}{params:Array Tmp}{as bo:Code}{g:FuncId}{caps:List (Nat×Nat×Nat×Nat)}{n:Nat}{ar:Nat->List AV}{D:Nat->Prop}{σ:Type}
  (hf:ev A.tm f=.one (.o (.clo g caps))) (hb:aq E.P g=true) (hpr:∀args,E.eu g args=none) (O4:ItC E g caps n ar D H) (hD:∀k,D k->k<H.nx)
  (hps:(params.toList.all λp=>Nat.blt p A.nt)=true) (hal:∀i,i<n->(ar i).length=params.toList.length)
  (J:Nat->σ->Hp->Prop) (F:ax->σ->Hp->Prop) (fp:σ->Nat->Prop)
  (hJ:∀{i s H1 H2},J i s H1->Sm (H.nx+1) H1 H2->J i s H2) (hF:∀{e s H1 H2},F e s H1->Sm (H.nx+1) H1 H2->F e s H2)
  (hl:∀{i s H1 k},J i s H1->fp s k->k<H1.nx/\k≠H.nx/\k≠H.nx+1/\¬D k)
  (s0:σ) (h0:∀H1,Gr H H1->H1.nx=H.nx+2->J 0 s0 H1)
  (body:∀i s H1,i<n->J i s H1->H.nx+2<=H1.nx->R1 E (some (H.nx+1)) as ⟨gG params.toList (ar i) A.tm,A.nt,[]⟩ H1 λe A1 H2=>e=.normal/\Fr (fp s) H1 H2 /\
   ∀H3,H3.nx=H2.nx->Sm (H.nx+1) H2 H3->R1 E (some (H.nx+1)) bo A1 H3 λe A2 H4=>A2.dfr=[]/\Fr (λk=>fp s k\/H1.nx<=k) H3 H4/\∃s',(e=.normal->J (i+1) s' H4)/\(e≠.normal->F e s' H4)/\∀k,fp s' k->fp s k\/H1.nx<=k)
  (hn:∀s' H5,J n s' H5->H.nx+2<=H5.nx->H5.get H.nx=some (.oth (.dfr true))->Fr (fp s0) H H5->(∀k,fp s' k->fp s0 k\/H.nx<=k)->Q .normal ⟨A.tm,A.nt,H.nx::A.dfr⟩ H5)
  (hx:∀e s' H5,e≠.normal->F e s' H5->H.nx+2<=H5.nx->H5.get H.nx=some (.oth (.dfr true))->Fr (fp s0) H H5->(∀k,fp s' k->fp s0 k\/H.nx<=k)->Q e ⟨A.tm,A.nt,H.nx::A.dfr⟩ H5)
  (hq:∀args H,E.dW g args H=none:=by intro _ _;rfl):
  R1 E none (.rangeFunc f params as bo) A H Q:=by
 have gL:Gr H ((H.new (.oth (.dfr true))).new (fB A.tm A.nt params.toList as bo H.nx .ready none)):=((Fr.refl _).new _).new _;have nL:((H.new (.oth (.dfr true))).new (fB A.tm A.nt params.toList as bo H.nx .ready none)).nx=H.nx+2:=rfl;have rL:((H.new (.oth (.dfr true))).new (fB A.tm A.nt params.toList as bo H.nx .ready none)).get (H.nx+1)=some (fB A.tm A.nt params.toList as bo H.nx .ready none):=aJ rfl;have rd:((H.new (.oth (.dfr true))).new (fB A.tm A.nt params.toList as bo H.nx .ready none)).get H.nx=some (.oth (.dfr true)):=by rw[bu (by rw[xM];omega),aJ rfl]
 let B:YB E (H.nx+1) n ar D (ax×σ):=
  { J:=λi s H1=>J i s.2 H1/\H1.get (H.nx+1)=some (fB A.tm A.nt params.toList as bo H.nx .ready none)/\H1.get H.nx=some (.oth (.dfr true))/\H.nx+2<=H1.nx
    F:=λs H1=>s.1≠.normal/\F s.1 s.2 H1/\H1.get (H.nx+1)=some (Lm A.tm A.nt params.toList as bo H.nx s.1)/\H1.get H.nx=some (.oth (.dfr true))/\H.nx+2<=H1.nx
    fp:=λs k=>fp s.2 k\/k=H.nx+1
    hJ:=λ{i s H1 H2}⟨h1,h2,h3,h4⟩hn hg=>⟨hJ h1 ⟨hn,λk hk _=>hg k hk⟩,by rw[hg _ aa];exact h2,by rw[hg _ aa];exact h3,aD h4 hn⟩
    hF:=λ{s H1 H2}⟨h0,h1,h2,h3,h4⟩hn hg=>⟨h0,hF h1 ⟨hn,λk hk _=>hg k hk⟩,by rw[hg _ aa];exact h2,by rw[hg _ aa];exact h3,aD h4 hn⟩
    hl:=λ{i s H1 k}⟨h1,h2,h3,h4⟩hk=>by
     rcases hk with hk|rfl
     ·exact⟨(hl h1 hk).1,(hl h1 hk).2.2.2⟩
     exact⟨aa,λh=>by have:=hD _ h;omega⟩
    pass:=λi s H1 hi⟨h1,h2,h3,h4⟩lg=>by
     have s1:Sm (H.nx+1) H1 ⟨H1.t,H1.nx,lg⟩:=Sm.same rfl rfl;have j1:=hJ h1 s1;have g2:(⟨H1.t,H1.nx,lg⟩:Hp).get (H.nx+1)=some (fB A.tm A.nt params.toList as bo H.nx .ready none):=h2;have g3:(⟨H1.t,H1.nx,lg⟩:Hp).get H.nx=some (.oth (.dfr true)):=h3;have n4:H.nx+2<=(⟨H1.t,H1.nx,lg⟩:Hp).nx:=h4;have e0:H1.nx=(⟨H1.t,H1.nx,lg⟩:Hp).nx:=rfl;rw[e0];generalize(⟨H1.t,H1.nx,lg⟩:Hp)=H1 at j1 g2 g3 n4 |-
     have nfL:¬fp s.2 (H.nx+1):=λh=>(hl j1 h).2.2.1 rfl;have nfd:¬fp s.2 H.nx:=λh=>(hl j1 h).2.1 rfl;refine N1.round g2 (hal i hi) hps ((body i s.2 H1 hi j1 n4).mono λe A1 Ha⟨he,hfa,hb2⟩=>⟨he,(hfa.get _ aa nfL).trans g2,?_⟩);have na:=hfa.nx;refine(hb2 (Ha.mod (H.nx+1) (fB A.tm A.nt params.toList as bo H.nx .busy none)) rfl (Sm.mod _ _)).mono λe2 A2 H4⟨B0,hf4,s',hj,hf,M6⟩=>?_;have n5:H1.nx<=H4.nx:=aD na hf4.nx;have gB:H4.get (H.nx+1)=some (fB A.tm A.nt params.toList as bo H.nx .busy none):=by rw[hf4.get _ (by rw[Ox];omega) (λh=>h.elim nfL λh=>aa),ao rfl]
     have gD:H4.get H.nx=some (.oth (.dfr true)):=by rw[hf4.get _ (by rw[Ox];omega) (λh=>h.elim nfd λh=>aa),az aa,hfa.get _ aa nfd,g3]
     refine⟨B0,gB,?_,λlg'=>⟨Lw e2,(e2,s'),rfl,λhb=>?_,λhb=>?_,λk hk=>?_⟩⟩
     ·have f1:Fr (λk=>fp s.2 k\/k=H.nx+1) H1 (Ha.mod (H.nx+1) (fB A.tm A.nt params.toList as bo H.nx .busy none)):=(hfa.mono λ_ h=>.inl h).mod _ (.inr (.inr rfl));exact(f1.then hf4 λk hk=>hk.elim (λh=>.inr (.inl h)) λh=>.inl h).mod _ (.inr (.inr rfl))
     ·have he:e2=.normal:=by cases e2<;>first|rfl|cases hb
      subst he;exact⟨hJ (hj rfl) ((Sm.mod _ _).trans (Sm.same rfl rfl)),ao rfl,by show(H4.mod _ _).get _=_;rw[az aa];exact gD,by show H.nx+2<=H4.nx;omega⟩
     ·have he:e2≠.normal:=λh=>by subst h;cases hb
      exact⟨he,hF (hf he) ((Sm.mod _ _).trans (Sm.same rfl rfl)),ao rfl,by show(H4.mod _ _).get _=_;rw[az aa];exact gD,by show H.nx+2<=H4.nx;omega⟩
     rcases hk with hk|hk
     ·rcases M6 k hk with h|h
      ·exact .inl (.inl h)
      exact .inr h
     exact .inl (.inr hk) }
 refine R1.ZX hf hb ?_;have hcon:=O4 (ax×σ) (H.nx+1) B (.normal,s0) _ gL.nx (λk hk=>gL.get k hk aF) ⟨h0 _ gL nL,rL,rd,mS nL.symm⟩;refine(C1.ZT (hpr _) hcon (hq _ _)).mono λv H3⟨hfr,s',hjf,M6⟩=>?_;have hfr':Fr (λk=>fp s0 k\/k=H.nx+1) _ H3:=hfr;have f1:∀o,Fr (fp s0) H (H3.mod (H.nx+1) o):=λo=>(gL.none.then hfr' λk hk=>hk.elim .inr λh=>.inl aa).mod _ (.inl aa);have f2:∀k,fp s'.2 k->fp s0 k\/H.nx<=k:=λk hk=>by
  rcases M6 k (.inl hk)with(h|h)|h
  ·exact .inl h
  ·exact .inr aa
  exact .inr (by have:H.nx+2<=k:=h;omega)
 rcases hjf with⟨j1,j2,j3,j4⟩|⟨j0,j1,j2,j3,j4⟩
 ·exact⟨.normal,j2,λo=>hn _ _ (hJ j1 (Sm.mod _ _)) j4 (by rw[az aa];exact j3) (f1 o) f2⟩
 exact⟨s'.1,j2,λo=>hx _ _ _ j0 (hF j1 (Sm.mod _ _)) j4 (by rw[az aa];exact j3) (f1 o) f2⟩
section
variable{st:Bool}{E:Env}{A:ag}{H:Hp}{next:ag->Hp->Prop}{d:Option Tmp}{ty:TypeId}{pos:String}{af:Array Edge}{gd:Option (Nat×Bool)}
def lkN(next:ag->Hp->Prop)(A:ag)(d:Option Tmp)(P:Program)(H:Hp)(o:Option (TypeId×TypeId))(m k:AV)(ok:Bool):Prop:=jK o λp=>jK (ba P p.2) λz=>vN next A d (bI P H p.1 (ofValue z) m k ok)
def IX{P:Program}{kt et:TypeId}{m k:AV}{ok:Bool}:lkN next A d P H (some (kt,et)) m k ok=jK (ba P et) λz=>vN next A d (bI P H kt (ofValue z) m k ok):=rfl
def upN(next:ag->Hp->Prop)(A:ag)(d:Option Tmp)(P:Program)(H:Hp)(o:Option (TypeId×TypeId))(m k x:AV):Prop:=jK o λp=>vN next A d (bD P H p.1 m k x)
def Kv{P:Program}{kt et:TypeId}{m k x:AV}:upN next A d P H (some (kt,et)) m k x=vN next A d (bD P H kt m k x):=rfl
def Ch{t:TypeId}{m k:Operand}{ok:Bool}:SK st E ⟨d,.lookup t m k ok,ty,pos,af,gd⟩ A H next=(ltV (ev A.tm m) H.nx/\lkN next A d E.P H (jl E.P t) (ev A.tm m) (ev A.tm k) ok):=by
 show(_/\fM _ ((ndF (jl E.P t) _ _).run A.tm H))=_;rw[du];unfold lkN;cases jl E.P t with
 |none=>rfl
 |some p=>show(_/\fM _ ((ndF (ba E.P p.2) _ _).run A.tm H))=_;rw[du];rfl
def ur{t:TypeId}{m k x:Operand}:SK st E ⟨d,.mapUpdate t m k x,ty,pos,af,gd⟩ A H next=(ltV (ev A.tm m) H.nx/\upN next A d E.P H (jl E.P t) (ev A.tm m) (ev A.tm k) (ev A.tm x)):=by show(_/\fM _ ((ndF (jl E.P t) _ _).run A.tm H))=_;rw[du];rfl
def Um{id n:Nat}:ltV (.one (.o (.mp id))) n=(id<n):=propext ⟨λh=>h id (List.mem_singleton.2 rfl),λh i hi=>by rw[List.mem_singleton.1 hi];exact h⟩
end
def mH:Nat->List (List UInt8×AC)->List bX
 |_,[]=>[]
 |n,(s,v)::l=>⟨.one (.o (.str s)),.one v,n⟩::mH (n+1) l
def jT(l:List (List UInt8×AC)):aX:=.oth (.map (mH 0 l) l.length)
def atK(l:List (List UInt8×AC))(s:List UInt8):Option AC:=
 match l with
 |[]=>none
 |(t,v)::l=>if t=s then some v else atK l s
def HY:∀(n:Nat)(l:List (List UInt8×AC)),(mH n l).length=l.length
 |_,[]=>rfl
 |n,(s,v)::l=>congrArg (·+1) (HY (n+1) l)
def HX:∀(n:Nat)(l:List (List UInt8×AC))(s:List UInt8)(v:AC),mH n (l++[(s,v)])=mH n l++[⟨.one (.o (.str s)),.one v,n+l.length⟩]
 |n,[],s,v=>rfl
 |n,(t,w)::l,s,v=>by show _::mH (n+1) (l++[(s,v)])=_::(mH (n+1) l++_);rw[HX (n+1) l s v];have:n+1+l.length=n+(l.length+1):=aa;rw[this];rfl
def Dp{P:Program}{kt:TypeId}(h:bO P kt=0)(s t:List UInt8):ky P kt (.one (.o (.str s))) (.one (.o (.str t)))=some (s==t):=by unfold ky;rw[h,<-iN];rfl
def Ay{P:Program}{kt:TypeId}(h:bO P kt=0)(s:List UInt8):∀(n:Nat)(l:List (List UInt8×AC)),∃e,ln P kt (.one (.o (.str s))) (mH n l)=some e/\e.map bX.val=(atK l s).map AV.one
 |_,[]=>⟨none,rfl,rfl⟩
 |n,(t,v)::l=>by
  obtain⟨e,h1,h2⟩:=Ay h s (n+1) l;have e0:ln P kt (.one (.o (.str s))) (mH n ((t,v)::l))=aB (ky P kt (.one (.o (.str s))) (.one (.o (.str t)))) none λb=>ifE b (some (some ⟨.one (.o (.str t)),.one v,n⟩)) (ln P kt (.one (.o (.str s))) (mH (n+1) l)):=rfl;rw[e0,Dp h];by_cases X3:s=t
  ·subst X3;refine⟨some ⟨.one (.o (.str s)),.one v,n⟩,?_,?_⟩
   ·show ifE (s==s) _ _=_;rw[fl];rfl
   show _=(if s=s then some v else atK l s).map AV.one;rw[ad rfl];rfl
  refine⟨e,?_,?_⟩
  ·show ifE (s==t) _ _=_;rw[aW X3];exact h1
  show _=(if t=s then some v else atK l s).map AV.one;rw[ab (λh=>X3 h.symm)];exact h2
def DD{P:Program}{b:Bool}{kt:TypeId}(h:bO P kt=0)(s:List UInt8):iH P b kt (.one (.o (.str s)))=some ():=by unfold iH;rw[h];rfl
def AX{P:Program}{H:Hp}{kt:TypeId}{z:AV}{id:Nat}{s:List UInt8}{l:List (List UInt8×AC)}{ok:Bool}(h:bO P kt=0)(hg:H.get id=some (jT l)):
  bI P H kt z (.one (.o (.mp id))) (.one (.o (.str s))) ok=(match atK l s with|some v=>bF H ok (.one v) true|none=>bF H ok z false):=by
 obtain⟨e,h1,h2⟩:=Ay h s 0 l;unfold bI;have R2:H.get id=some (.oth (.map (mH 0 l) l.length)):=hg;simp only[R2,DD h];show(match ln P kt (.one (.o (.str s))) (mH 0 l)with|some (some e)=>bF H ok e.val true|some none=>bF H ok z false|none=>.bad "lookup - keys")=_
 rw[h1];cases e with
 |none=>
  cases ha:atK l s with
  |none=>rfl
  |some v=>rw[ha]at h2;cases h2
 |some e=>
  cases ha:atK l s with
  |none=>rw[ha]at h2;cases h2
  |some v=>rw[ha]at h2;have:e.val=.one v:=dX h2;show bF H ok e.val true=bF H ok (.one v) true;rw[this]
def DV{P:Program}{kt:TypeId}(h:bO P kt=0)(s:List UInt8)(x:AV):∀(n:Nat)(l:List (List UInt8×AC)),atK l s=none->rm P kt (.one (.o (.str s))) x (mH n l)=some (false,mH n l)
 |_,[],_=>rfl
 |n,(t,v)::l,ha=>by
  have hts:¬t=s:=λe=>by unfold atK at ha;rw[ad e]at ha;cases ha
  have ha2:atK l s=none:=by unfold atK at ha;rwa [ab hts]at ha
  have ih:=DV h s x (n+1) l ha2;have e0:rm P kt (.one (.o (.str s))) x (mH n ((t,v)::l))=aB (ky P kt (.one (.o (.str s))) (.one (.o (.str t)))) none λb=>ifE b (ifE (sameKey P kt (.one (.o (.str t))) (.one (.o (.str s)))) (some (true,⟨.one (.o (.str s)),x,n⟩::mH (n+1) l)) none) (aB (rm P kt (.one (.o (.str s))) x (mH (n+1) l)) none λr=>some (r.1,⟨.one (.o (.str t)),.one v,n⟩::r.2)):=rfl;rw[e0,Dp h];show ifE (s==t) _ _=_;rw[aW (λh=>hts h.symm),ih];rfl
def BD{P:Program}{H:Hp}{kt:TypeId}{id:Nat}{s:List UInt8}{l:List (List UInt8×AC)}{x:AC}(h:bO P kt=0)(hg:H.get id=some (jT l))(hn:atK l s=none):
  bD P H kt (.one (.o (.mp id))) (.one (.o (.str s))) (.one x)=.val aP (H.mod id (jT (l++[(s,x)]))):=by
 unfold bD;have R2:H.get id=some (.oth (.map (mH 0 l) l.length)):=hg;simp only[R2,DD h];show nd (rm P kt (.one (.o (.str s))) (.one x) (mH 0 l)) _ _=_;rw[DV h s (.one x) 0 l hn];show aj.val aP (H.mod id (.oth (.map (mH 0 l++[⟨.one (.o (.str s)),.one x,l.length⟩]) (l.length+1))))=_;unfold jT;rw[HX,bA,Nat.zero_add];rfl
def Uc{H:Hp}{id:Nat}{l:List (List UInt8×AC)}(hg:H.get id=some (jT l)):eo H 2 (.one (.o (.mp id)))=.val (.one (.i .i64 (l.length:Int))) H:=by have e:eo H 2 (.one (.o (.mp id)))=fz H (.one (.o (.mp id))):=rfl;rw[e];unfold fz;have R2:H.get id=some (.oth (.map (mH 0 l) l.length)):=hg;simp only[R2];rw[HY];rfl
def xN{k:IntKind}{n:Int}:ofValue (.int k n)=.one (.i k n):=rfl
def vB{b:Bool}:ofValue (.bool b)=.one (.b b):=rfl
def Al{α β:Type}(R:β->α->Prop):List β->List α->Prop
 |[],[]=>True
 |c::cs,x::xs=>R c x/\Al R cs xs
 |_,_=>False
def Al.len{α β:Type}{R:β->α->Prop}:∀{cs:List β}{xs:List α},Al R cs xs->cs.length=xs.length
 |[],[],_=>rfl
 |_::_,_::_,h=>congrArg (·+1) (Al.len h.2)
 |[],_::_,h=>h.elim
 |_::_,[],h=>h.elim
def Al.mono{α β:Type}{R R':β->α->Prop}(hr:∀c x,R c x->R' c x):∀{cs:List β}{xs:List α},Al R cs xs->Al R' cs xs
 |[],[],_=>trivial
 |_::_,_::_,h=>⟨hr _ _ h.1,Al.mono hr h.2⟩
 |[],_::_,h=>h.elim
 |_::_,[],h=>h.elim
def Al.at{α β:Type}{R:β->α->Prop}:∀{cs:List β}{xs:List α}{i:Nat}{x:α},Al R cs xs->xs[i]?=some x->∃c,cs[i]?=some c/\R c x
 |[],[],_,_,_,h=>by simp at h
 |c::cs,y::xs,0,x,h,hx=>by simp only[List.getElem?_cons_zero,xj]at hx;subst hx;exact⟨c,rfl,h.1⟩
 |c::cs,y::xs,i+1,x,h,hx=>by rw[List.getElem?_cons_succ]at hx |-;exact Al.at h.2 hx
 |[],_::_,_,_,h,_=>h.elim
 |_::_,[],_,_,h,_=>h.elim
def Al.app{α β:Type}{R:β->α->Prop}:∀{cs:List β}{xs:List α}{c:β}{x:α},Al R cs xs->R c x->Al R (cs++[c]) (xs++[x])
 |[],[],_,_,_,h=>⟨h,trivial⟩
 |_::_,_::_,_,_,h,k=>⟨h.1,Al.app h.2 k⟩
 |[],_::_,_,_,h,_=>h.elim
 |_::_,[],_,_,h,_=>h.elim
def SlR{α:Type}(R:Hp->List AC->α->Prop)(sz:Nat)(H:Hp)(v:AC)(l:List α):Prop:=
 ∃css:List (List AC),SlC H v sz l.length (css.flatMap id)/\Al (λc x=>c.length=sz/\R H c x) css l
def SlR.dV{α:Type}{R:Hp->List AC->α->Prop}{sz:Nat}{H H':Hp}{v:AC}{l:List α}(h:SlR R sz H v l)(hn:H.nx<=H'.nx)(hg:∀i,i<H.nx->H'.get i=H.get i)(hr:∀c x,R H c x->R H' c x):SlR R sz H' v l:=by obtain⟨css,h1,h2⟩:=h;exact⟨css,h1.dV hn hg,h2.mono λc x h=>⟨h.1,hr c x h.2⟩⟩
def SlR.len{α:Type}{R:Hp->List AC->α->Prop}{sz:Nat}{H:Hp}{v:AC}{l:List α}(h:SlR R sz H v l):eo H 1 (.one v)=.val (.one (.i .i64 (l.length:Int))) H:=let ⟨_,h1,_⟩:=h;h1.len
def SlR.lt{α:Type}{R:Hp->List AC->α->Prop}{sz:Nat}{H:Hp}{v:AC}{l:List α}(h:SlR R sz H v l):ltV (.one v) H.nx:=let ⟨_,h1,_⟩:=h;sj h1
def Dd{sz:Nat}:∀{css:List (List AC)},(∀c∈css,c.length=sz)->(css.flatMap id).length=css.length*sz
 |[],_=>by simp
 |c::css,h=>by rw[List.flatMap_cons,bA,Dd λx hx=>h x (aU _ hx),List.length_cons,tY];have:(id c:List AC).length=sz:=h c (bh ..);omega
def Az{sz:Nat}:∀{css:List (List AC)}{i:Nat}{c:List AC},(∀c∈css,c.length=sz)->css[i]?=some c->((css.flatMap id).drop (i*sz)).take sz=c
 |[],_,_,_,h=>by simp at h
 |d::css,0,c,hl,h=>by simp only[List.getElem?_cons_zero,xj]at h;subst h;have:d.length=sz:=hl d (bh ..);rw[Nat.zero_mul,List.drop_zero,List.flatMap_cons];show(d++_).take sz=d;rw[yV aa,iX aa]
 |d::css,i+1,c,hl,h=>by rw[List.getElem?_cons_succ]at h;have hd:d.length=sz:=hl d (bh ..);rw[List.flatMap_cons,tY];show((d++css.flatMap id).drop (i*sz+sz)).take sz=c;rw[sG,hd,mR aa,gQ];have:i*sz+sz-sz=i*sz:=aa;rw[this];exact Az (λx hx=>hl x (aU _ hx)) h
def Al.lens{α:Type}{R:List AC->α->Prop}{sz:Nat}:∀{css:List (List AC)}{xs:List α},Al (λc x=>c.length=sz/\R c x) css xs->∀c∈css,c.length=sz
 |[],[],_,_,h=>by cases h
 |_::_,_::_,h,c,hc=>by
  rcases List.mem_cons.1 hc with rfl|hc
  ·exact h.1.1
  exact Al.lens h.2 c hc
 |[],_::_,h,_,_=>h.elim
 |_::_,[],h,_,_=>h.elim
def SlR.open{α:Type}{R:Hp->List AC->α->Prop}{sz:Nat}{H:Hp}{v:AC}{l:List α}(h:SlR R sz H v l)(hn:0<l.length):∃id g off cells,v=.o (.sl id g off l.length sz)/\id<H.nx/\rowOf (H.get id) g=some cells /\
  ∀(i:Nat)(x:α),l[i]?=some x->off+i*sz+sz<=cells.length/\∃c,(cells.drop (off+i*sz)).take sz=c/\c.length=sz/\R H c x:=by
 obtain⟨css,h1,h2⟩:=h;obtain⟨id,g,off,e1,hid,hr⟩:=SlC.pos h1 hn;have T3:=hr;obtain⟨cells,h3,h6,h7⟩:=hr;refine⟨id,g,off,cells,e1,hid,h3,λi x hx=>?_⟩;obtain⟨c,hc,W0,hR⟩:=h2.at hx;have D0:i<l.length:=by
  rcases cO i l.length with h|h
  ·exact h
  rw[iw h]at hx;cases hx
 have hmul:(i+1)*sz<=l.length*sz:=lQ _ D0;rw[tY]at hmul;obtain⟨cells',k3,k6,k7⟩:=T3.part (i*sz) sz hmul;rw[h3]at k3;cases k3
 refine⟨k6,c,?_,W0,hR⟩;rw[k7];exact Az h2.lens hc
def zD{P:Program}{h:Hp}{t e:TypeId}{sz by_ n:Nat}{z:Value}{x:AV}{c:List AC}(he:bV P t=some (e,sz))(hb:dA P e=some by_)(hz:ba P e=some z)(S2:(ofValue z).cells.length=sz)(M1:sz≠0)
  (hs:mB h sz x=some (n,c)) (h1:n<=140737488355328) (h2:n*by_<=140737488355328):bN P h t (.one (.o .nilS)) x=if n=0 then .val (.one (.o .nilS)) h else .val (.one (.o (.sl h.nx 0 0 n sz))) (h.new (.arr c e 0 0)):=by
 have e1:Nat.beq sz 0=false:=by
  cases h:Nat.beq sz 0 with
  |false=>rfl
  |true=>exact absurd (aN h) M1
 have e3:both (!Nat.beq sz 0) (Nat.beq (bU (ofValue z).cells) sz)=true:=by rw[e1,bP,S2,cN];rfl
 have e4:both (Nat.ble n 140737488355328) (Nat.ble (Nat.mul n by_) 140737488355328)=true:=by rw[bG h1];exact bG h2
 unfold bN;simp only[he,hb,hz,nd,e3,aK,hs];show Eng.ifE (Nat.beq n 0) (.val (.one (.o .nilS)) h) (aK (both (Nat.ble n 140737488355328) (Nat.ble (Nat.mul n by_) 140737488355328)) "append - too much" (.val (.one (.o (.sl h.nx 0 0 n sz))) (h.new (.arr c e 0 0))))=_
 rw[e4];by_cases hn:n=0
 ·subst hn;rfl
 have:Nat.beq n 0=false:=by
  cases h:Nat.beq n 0 with
  |false=>rfl
  |true=>exact absurd (aN h) hn
 rw[this,ab hn];rfl
def gZ{P:Program}{H:Hp}{t e:TypeId}{sz by_ n:Nat}{z:Value}{v:AC}{cells:List AC}{r:Option Nat}(he:bV P t=some (e,sz))(hb:dA P e=some by_)(hz:ba P e=some z)(S2:(ofValue z).cells.length=sz)(M1:sz≠0)
  (ho:dz H v e sz n cells r) (c0:List AC) (hc0:c0.length=sz) (hL:n+1<=140737488355328/\(n+1)*by_<=140737488355328):
  ltV (.one v) (H.new (.arr c0 e 0 0)).nx/\∃v' H' r',bN P (H.new (.arr c0 e 0 0)) t (.one v) (.one (.o (.sl H.nx 0 0 1 sz)))=.val (.one v') H' /\
   dz H' v' e sz (n+1) (cells++c0) (some r')/\Fr (λi=>r=some i) H H'/\(r=some r'\/H.nx<=r'):=by
 have hown3:=ho.fr ((Fr.refl _:Gr _ _).new (.arr c0 e 0 0)) λ_ _ h=>h;obtain⟨v5,H5,r5,X2,how5,hf5,hr5⟩:=zE (P:=P) (t:=t) (H:=H.new (.arr c0 e 0 0)) (x:=.one (.o (.sl H.nx 0 0 1 sz))) (k:=1) (c:=c0) he hb hz S2 M1 hown3
  (by rw[xf (cells:=c0) (by rw[aJ rfl];rfl) aa];simp only[List.drop_zero,Nat.one_mul];rw[iX aa]) aE (by rw[hc0,Nat.one_mul]) hL.1 hL.2
 refine⟨hown3.lt,v5,H5,r5,X2,how5,?_,?_⟩
 ·exact((Fr.refl _:Gr _ _).new (.arr c0 e 0 0)).none.then hf5 λq hq=>.inr hq
 rcases hr5 with h|⟨_,h⟩
 ·exact .inl h
 right;rw[h,xM];omega
def uO{tm:PT AV}:ev tm (.const (.pointer none))=.one (.o .nilP):=rfl
def NL{tm:PT AV}:ev tm (.const (.map none))=.one (.o .nilM):=rfl
def NK{tm:PT AV}:ev tm (.const .nilFunc)=.one (.o .vA):=rfl
def vz{H:Hp}{id g off lim:Nat}:jm H (.one (.o (.ptr id g off lim)))=.val (.one (.o (.ptr id g off lim))) H:=rfl
def pZ{H:Hp}{id g off lim:Nat}{alt:aj}{f:BF}:cr H 0 .eql f (.one (.o (.ptr id g off lim))) (.one (.o .nilP)) alt=.val (.one (.b false)) H:=rfl
def Ln{H:Hp}{id:Nat}{alt:aj}{f:BF}:cr H 2 .eql f (.one (.o (.mp id))) (.one (.o .nilM)) alt=.val (.one (.b false)) H:=rfl
def Tg{H:Hp}{alt:aj}{f:BF}:cr H 0 .eql f (.one (.o .nilP)) (.one (.o .nilP)) alt=alt:=rfl
def Tf{H:Hp}{alt:aj}{f:BF}:cr H 2 .eql f (.one (.o .nilM)) (.one (.o .nilM)) alt=alt:=rfl
def Uw(r:Bool)(H:Hp)(alt:aj)(x y:AV):aj:=
 match x,y with
 |.one (.o .nilP),.one (.o .nilP)=>.val (.one (.b r)) H
 |_,_=>alt
def Xw{r:Bool}{H:Hp}{alt:aj}:Uw r H alt (.one (.o .nilP)) (.one (.o .nilP))=.val (.one (.b r)) H:=rfl
def LU{P:Program}{tm:PT AV}{H:Hp}{d:Option Tmp}{t c:TypeId}{e:TypeId}{x y:Operand}{ty:TypeId}{pos:String}{af:Array Edge}{g:Option (Nat×Bool)}(h:P.underlying t=some (.pointer e)):
  aA P tm H ⟨d,.binOp .eql t x y c,ty,pos,af,g⟩=Uw true H (cu P tm H ⟨d,.binOp .eql t x y c,ty,pos,af,g⟩) (ev tm x) (ev tm y):=by
 unfold Uw;split
 ·rename_i hx hy
  have vx:(ev tm x).val?=some (.pointer none):=by rw[hx];rfl
  have vy:(ev tm y).val?=some (.pointer none):=by rw[hy];rfl
  have dx:bQ (ev tm x)=.pointer none:=by unfold bQ;rw[vx]
  have dy:bQ (ev tm y)=.pointer none:=by unfold bQ;rw[vy]
  unfold aA;have e1:((⟨d,.binOp .eql t x y c,ty,pos,af,g⟩:Oper).op.operands.toList.all λx=>(ev tm x).val?.isSome)=true:=by show([x,y].all λx=>(ev tm x).val?.isSome)=true;simp only[List.all_cons,List.all_nil,vx,vy];rfl
  rw[e1];have e2:aG P (execOp (λx=>bQ (ev tm x)) ⟨d,.binOp .eql t x y c,ty,pos,af,g⟩)=some (.value (.bool true)):=by
   show aG P (Sem.bind (Sem.bind (eqGuard .eql t x y (bQ (ev tm x)) (bQ (ev tm y))) λ_=>binOp .eql t (bQ (ev tm x)) (bQ (ev tm y))) λv=>Sem.pure (Next.value v))=_;rw[dx,dy,bz,bz];have hg:eqGuard .eql t x y (.pointer none) (.pointer none)=pure ():=rfl;rw[hg];show((aG P (Sem.bind (Op.equalIn 10000 t (.pointer none) (.pointer none)) λr=>Sem.pure (Value.bool r)))).bind _=_;have he:aG P (Op.equalIn 10000 t (.pointer none) (.pointer none))=some true:=by unfold Op.equalIn;rw[bM,cH h];rfl
   rw[bz,he];rfl
  rw[e2];rfl
 rfl
def Uv(r:Bool)(H:Hp)(alt:aj)(x y:AV):aj:=
 match x,y with
 |.one (.o .nilM),.one (.o .nilM)=>.val (.one (.b r)) H
 |_,_=>alt
def Xv{r:Bool}{H:Hp}{alt:aj}:Uv r H alt (.one (.o .nilM)) (.one (.o .nilM))=.val (.one (.b r)) H:=rfl
def LS{P:Program}{tm:PT AV}{H:Hp}{d:Option Tmp}{t c:TypeId}{kt et:TypeId}{x y:Operand}{ty:TypeId}{pos:String}{af:Array Edge}{g:Option (Nat×Bool)}(h:P.underlying t=some (.map kt et)):
  aA P tm H ⟨d,.binOp .eql t x y c,ty,pos,af,g⟩=Uv true H (cu P tm H ⟨d,.binOp .eql t x y c,ty,pos,af,g⟩) (ev tm x) (ev tm y):=by
 unfold Uv;split
 ·rename_i hx hy
  have vx:(ev tm x).val?=some (.map none):=by rw[hx];rfl
  have vy:(ev tm y).val?=some (.map none):=by rw[hy];rfl
  have dx:bQ (ev tm x)=.map none:=by unfold bQ;rw[vx]
  have dy:bQ (ev tm y)=.map none:=by unfold bQ;rw[vy]
  unfold aA;have e1:((⟨d,.binOp .eql t x y c,ty,pos,af,g⟩:Oper).op.operands.toList.all λx=>(ev tm x).val?.isSome)=true:=by show([x,y].all λx=>(ev tm x).val?.isSome)=true;simp only[List.all_cons,List.all_nil,vx,vy];rfl
  rw[e1];have e2:aG P (execOp (λx=>bQ (ev tm x)) ⟨d,.binOp .eql t x y c,ty,pos,af,g⟩)=some (.value (.bool true)):=by
   show aG P (Sem.bind (Sem.bind (eqGuard .eql t x y (bQ (ev tm x)) (bQ (ev tm y))) λ_=>binOp .eql t (bQ (ev tm x)) (bQ (ev tm y))) λv=>Sem.pure (Next.value v))=_;rw[dx,dy,bz,bz];have hg:eqGuard .eql t x y (.map none) (.map none)=pure ():=rfl;rw[hg];show((aG P (Sem.bind (Op.equalIn 10000 t (.map none) (.map none)) λr=>Sem.pure (Value.bool r)))).bind _=_;have he:aG P (Op.equalIn 10000 t (.map none) (.map none))=some true:=by unfold Op.equalIn;rw[bM,cH h];rfl
   rw[bz,he];rfl
  rw[e2];rfl
 rfl
open Go Go.ChangeShapes Go.WideShapes
def ij(W:World)(xs:List (Option lY)):Prop:=∀(i:Nat)(x:lY),(xs[i]?).join=some x->tq (lZ xs) W x.cells x.p
def sQ(W:World):Prop:=∃(b:Nat)(c:Array Value)(e:TypeId)(f:Nat×Nat),W.heap[b]?=some (.cells c e f)
def pO(xs ys:List (Option lY)):Sub (lZ xs) (lZ (xs++ys)):=by
 intro i g p h;unfold lZ at h |-;split at h
 ·rename_i hg
  rw[ad hg];by_cases hi:i<xs.length
  ·rw[gR hi];exact h
  rw[iw aa]at h;cases h
 cases h
def yi(xs ys:List (Option lY)):Gr (pP xs) (pP (xs++ys))where
 nx:=by show xs.length<=(xs++ys).length;simp
 get:=λi hi _=>by have hi':i<xs.length:=hi;rw[nN,nN,gR hi']
 log:=⟨[],rfl,λ_ h=>by cases h⟩
def tq.sub{β β':Pl}{W:World}{cells:List AC}{p:Place}(hs:Sub β β')(h:tq β W cells p):tq β' W cells p:=by obtain⟨c,e,f,h1,h2,h3,h4,h5⟩:=h;refine⟨c,e,f,h1,h2,h3,h4,λk x hk hx=>?_⟩;obtain⟨v,hv,hr⟩:=h5 k x hk hx;exact⟨v,hv,CR.mono hs hr⟩
def Ec{W:World}{xs:List (Option lY)}{r:lY}(h:ij W xs)(hr:tq (lZ xs) W r.cells r.p):ij W (xs++[some r]):=by
 intro i x hx;by_cases hi:i<xs.length
 ·rw[gR hi]at hx;exact tq.sub (pO _ _) (h i x hx)
 rw[mV aa]at hx;have:i-xs.length=0:=by
  rcases rP (i-xs.length)with h|h
  ·exact h
  rw[iw (by simp;omega)]at hx;cases hx
 rw[this]at hx;cases hx
 exact tq.sub (pO _ _) hr
def Cn(xs:List (Option lY))(r:lY):lZ (xs++[some r]) xs.length 0=some r.p:=by unfold lZ;rw[ad rfl,mV (ai _),ga];rfl
def Co(xs:List (Option lY))(r:lY):(pP (xs++[some r])).get xs.length=some (.ro r.cells):=by rw[nN,mV (ai _),ga];rfl
def Vf{W:World}:ij W []:=λi x h=>by simp at h
section
variable{P:Program}{W:World}{α β:Type}
def Opn(P:Program)(W:World)(sz:Nat)(R:Nat->Hp->List AC->α->Prop)(t:TypeId):Prop:=
 ∀(H:Type)(enc:TypeId×Value->H)(fuel:Nat)(cs:List Value)(d:DataW H)(p:List MemPlace)(B:Nat),
  DataW.trod enc P W 0 (λ_=>true) true fuel t cs=some (d,p)->(∀n∈d.weights P t,n<=B) ->
  ∀xs,ij W xs->∃ys c x,ij W (xs++ys)/\CRs (lZ (xs++ys)) c cs/\c.length=sz/\R B (pP (xs++ys)) c x
def Mo(B:Nat)(_:Hp)(c:List AC)(s:List UInt8):Prop:=c=[.o (.str s)]/\s.length<=B
def Ly(k:IntKind)(_:Nat)(_:Hp)(c:List AC)(z:Int):Prop:=c=[.i k z]/\(Lit.int k z).wf=true
def Sz(_:Nat)(_:Hp)(c:List AC)(z:Bool):Prop:=c=[.b z]
def vE{t:TypeId}(ht:P.underlying t=some .string):Opn P W 1 Mo t:=by
 intro H enc fuel cs d p B h hw xs hx;obtain⟨s,rfl,e,_⟩:=DataW.trod_string ht h;cases e
 refine⟨[],[.o (.str s.data.toList)],s.data.toList,by rwa [List.append_nil],⟨?_,trivial⟩,rfl,rfl,hw _ (by simp[DataW.weights])⟩;show Value.string s=.string ⟨s.data.toList.toArray⟩;simp
def vD{t:TypeId}{k:IntKind}(ht:P.underlying t=some (.int k)):Opn P W 1 (Ly k) t:=by intro H enc fuel cs d p B h hw xs hx;obtain⟨n,rfl,e,hwf⟩:=DataW.trod_int ht h;exact⟨[],[.i k n],n,by rwa [List.append_nil],⟨rfl,trivial⟩,rfl,rfl,hwf⟩
def MJ{H:Type}(enc:TypeId×Value->H)(P:Program)(W:World)(n:Nat):List TypeId->List Value->List (DataW H×List MemPlace)->Prop
 |[],cs,[]=>cs=[]
 |t::ts,cs,y::ys=>P.cellsOf t<=cs.length/\DataW.trod enc P W 0 (λ_=>true) true n t (cs.take (P.cellsOf t))=some y/\MJ enc P W n ts (cs.drop (P.cellsOf t)) ys
 |_,_,_=>False
def VW(P:Program)(W:World)(sz:Nat)(R:Nat->Hp->List AC->α->Prop)(ts:List TypeId):Prop:=
 ∀(H:Type)(enc:TypeId×Value->H)(n:Nat)(cs:List Value)(ys:List (DataW H×List MemPlace))(B:Nat),
  MJ enc P W n ts cs ys->(∀n∈DataW.weightsEach P ts (ys.map (·.1)),n<=B) ->
  ∀xs,ij W xs->∃rs c x,ij W (xs++rs)/\CRs (lZ (xs++rs)) c cs/\c.length=sz/\R B (pP (xs++rs)) c x
def jJ{sz:Nat}{R:Nat->Hp->List AC->α->Prop}{t:TypeId}(h:Opn P W sz R t):VW P W sz R [t]:=by
 intro H enc n cs ys B hp hw xs hx;match ys,hp with
 |[y],⟨h1,h2,h3⟩=>
  have h3':cs.drop (P.cellsOf t)=[]:=h3;have e:cs.take (P.cellsOf t)=cs:=by have:=ud (P.cellsOf t) cs;rwa [h3',List.append_nil]at this
  rw[e]at h2;exact h H enc n cs y.1 y.2 B h2 (λn hn=>hw n (by simp[DataW.weightsEach,hn])) xs hx
def lM(R:Nat->Hp->List AC->α->Prop)(S:Nat->Hp->List AC->β->Prop)(B:Nat)(H:Hp)(c:List AC)(x:α×β):Prop:=∃c1 c2,c=c1++c2/\R B H c1 x.1/\S B H c2 x.2
def kU(R:Nat->Hp->List AC->α->Prop):Prop:=∀B H H' c x,R B H c x->Gr H H'->R B H' c x
def ib:kU Mo:=λ_ _ _ _ _ h _=>h
def jx{k:IntKind}:kU (Ly k):=λ_ _ _ _ _ h _=>h
def fC{R:Nat->Hp->List AC->α->Prop}{S:Nat->Hp->List AC->β->Prop}(h:kU R)(k:kU S):kU (lM R S):=λ_ _ _ _ _⟨c1,c2,e,a,b⟩g=>⟨c1,c2,e,h _ _ _ _ _ a g,k _ _ _ _ _ b g⟩
def eh{sz sz':Nat}{R:Nat->Hp->List AC->α->Prop}{S:Nat->Hp->List AC->β->Prop}{t:TypeId}{ts:List TypeId}(h:Opn P W sz R t)(hR:kU R)(hs:VW P W sz' S ts):VW P W (sz+sz') (lM R S) (t::ts):=by
 intro H enc n cs ys B hp hw xs hx;match ys,hp with
 |y::ys,⟨h1,h2,h3⟩=>
  obtain⟨r1,c1,x1,a1,a2,a3,a4⟩:=h H enc n _ y.1 y.2 B h2 (λn hn=>hw n (by simp[DataW.weightsEach,hn])) xs hx;obtain⟨r2,c2,x2,b1,b2,b3,b4⟩:=hs H enc n _ ys B h3 (λn hn=>hw n (by simp only[List.map_cons,DataW.weightsEach,js];exact .inr hn)) (xs++r1) a1;rw[bW]at b1 b2 b4;refine⟨r1++r2,c1++c2,(x1,x2),b1,?_,by rw[bA,a3,b3],c1,c2,rfl,?_,b4⟩
  ·have:=CRs.append (CRs.mono (by rw[<-bW];exact pO _ _) a2) b2;rwa [ud]at this
  exact hR _ _ _ _ _ a4 (by rw[<-bW];exact yi _ _)
def wW(P:Program)(n:Nat):Nat->List Field->Bool
 |o,[]=>o==n
 |o,f::fs=>(f.offset==o)&&(decide (o+P.cellsOf f.type<=n)&&wW P n (o+P.cellsOf f.type) fs)
def Bi{H:Type}{enc:TypeId×Value->H}{n:Nat}{cs:List Value}:∀(fs:List Field)(o:Nat)(ys:List (DataW H×List MemPlace)),wW P cs.length o fs=true->ys.length=fs.length ->
  (∀(i:Nat)(f:Field),fs[i]?=some f->DataW.trod enc P W 0 (λ_=>true) true n f.type ((cs.drop f.offset).take (P.cellsOf f.type))=ys[i]?)->MJ enc P W n (fs.map (·.type)) (cs.drop o) ys
 |[],o,[],ho,_,_=>by
  have:o=cs.length:=by simpa [wW]using ho
  show cs.drop o=[];rw[this,dD]
 |f::fs,o,y::ys,ho,hl,h=>by
  simp only[wW,aT,gP,bB]at ho;obtain⟨h1,h2,h3⟩:=ho;refine⟨by show P.cellsOf f.type<=_;rw[iZ];omega,?_,?_⟩
  ·have:=h 0 f rfl;rwa [h1]at this
  rw[iy];exact Bi fs _ ys h3 (by simpa using hl) λi g hg=>h (i+1) g hg
 |[],_,_::_,_,hl,_=>by simp at hl
 |_::_,_,[],_,hl,_=>by simp at hl
def fU{sz:Nat}{R:Nat->Hp->List AC->α->Prop}{t:TypeId}{fs:Array Field}{ts:List TypeId}(ht:P.underlying t=some (.struct fs))(ho:wW P (P.cellsOf t) 0 fs.toList=true)(hts:fs.toList.map (·.type)=ts)(h:VW P W sz R ts):Opn P W sz R t:=by
 intro H enc fuel cs d p B hd hw xs hx;obtain⟨ys,n,_,e,hl,hyl,hf⟩:=DataW.trod_struct ht hd;cases e
 rw[<-hl]at ho;have hp:=Bi (enc:=enc) (W:=W) (n:=n) (cs:=cs) fs.toList 0 ys ho (by rw[hyl];simp) (λi f hi=>hf i f (by simpa using hi));rw[hts,List.drop_zero]at hp;refine h H enc n cs ys B hp (λk hk=>hw k ?_) xs hx;simp only[DataW.weights,ht];rwa [hts]
def rK{H:Type}{e:TypeId}{d:DataW H}{n:Nat}(hn:n∈d.weights P e):∀{l:List (DataW H)},d∈l->n∈DataW.weightsAll P e l
 |x::l,h=>by
  rcases List.mem_cons.1 h with rfl|h
  ·simp[DataW.weightsAll,hn]
  simp only[DataW.weightsAll,js];exact .inr (rK hn h)
def Gg(P:Program)(e:TypeId)(sz:Nat)(R:Nat->Hp->List AC->α->Prop)(B:Nat)(H:Hp)(c:List AC)(l:List α):Prop:=∃u,c=[u]/\SlR (R B) sz H u l/\l.length*P.bytesOf e<=B
def sn{e:TypeId}{sz:Nat}{R:Nat->Hp->List AC->α->Prop}(h:kU R):kU (Gg P e sz R):=λ_ _ _ _ _⟨u,hc,a,b⟩g=>⟨u,hc,a.dV g.nx (λi hi=>g.get i hi aF) λ_ _ k=>h _ _ _ _ _ k g,b⟩
def DG{sz:Nat}{R:Nat->Hp->List AC->α->Prop}{e:TypeId}(hR:kU R)(h:Opn P W sz R e){H:Type}{enc:TypeId×Value->H}{n B:Nat}{a:Addr}{D:Nat->DataW H}{Pl:Nat->List MemPlace}:
  ∀(m:Nat),(∀i,i<m->∃cs',W.cells? 0 (a.add (i*sz)) sz=some cs'/\DataW.trod enc P W 0 (λ_=>true) true n e cs'=some (D i,Pl i))->(∀i,i<m->∀k∈(D i).weights P e,k<=B) ->
  ∀xs,ij W xs->∃ys css l,l.length=m/\ij W (xs++ys)/\Al (λc x=>c.length=sz/\R B (pP (xs++ys)) c x) css l /\
   ∀k,k<m->∃c cs',css[k]?=some c/\W.cells? 0 (a.add (k*sz)) sz=some cs'/\CRs (lZ (xs++ys)) c cs'
 |0,_,_,xs,hx=>⟨[],[],[],rfl,by rwa [List.append_nil],trivial,λk hk=>absurd hk (Nat.not_lt_zero k)⟩
 |m+1,hc,hw,xs,hx=>by
  obtain⟨ys,css,l,hl,Y0,hal,hk⟩:=DG hR h m (λi hi=>hc i aa) (λi hi=>hw i aa) xs hx;obtain⟨cs',h1,h2⟩:=hc m (aZ m);obtain⟨zs,c,x,b1,b2,b3,b4⟩:=h H enc n cs' _ _ B h2 (hw m (aZ m)) (xs++ys) Y0;have hlen:css.length=m:=by rw[hal.len,hl]
  rw[bW]at b1 b2 b4;have J1:Sub (lZ (xs++ys)) (lZ (xs++(ys++zs))):=by rw[<-bW];exact pO _ _
  have B2:Gr (pP (xs++ys)) (pP (xs++(ys++zs))):=by rw[<-bW];exact yi _ _
  refine⟨ys++zs,css++[c],l++[x],by simp[hl],b1,Al.app (hal.mono λc x⟨u,v⟩=>⟨u,hR _ _ _ _ _ v B2⟩) ⟨b3,b4⟩,λk R3=>?_⟩;by_cases hkm:k<m
  ·obtain⟨c1,cs1,e1,e2,e3⟩:=hk k hkm;exact⟨c1,cs1,by rw[gR aa];exact e1,e2,CRs.mono J1 e3⟩
  have:k=m:=aa;subst this;exact⟨c,cs',by rw[mV aa,hlen,ga];rfl,h1,b2⟩
def kR{sz:Nat}{R:Nat->Hp->List AC->α->Prop}{t e:TypeId}(ht:P.underlying t=some (.slice e))(M1:P.cellsOf e=sz)(I5:0<sz)(hR:kU R)(hB:sQ W)(h:Opn P W sz R e):
  Opn P W 1 (Gg P e sz R) t:=by
 intro H enc fuel cs d p B hd hw xs hx;rcases Deep.open_slice ht hd with⟨rfl,e1⟩|⟨a,len,cap,m,n,D,Pl,rfl,_,hl,hmax,hm,hxx,G4⟩
 ·exact⟨[],[.o .nilS],[],by rwa [List.append_nil],⟨rfl,trivial⟩,rfl,.o .nilS,rfl,⟨[],⟨by simp,.inl ⟨rfl,rfl⟩⟩,trivial⟩,by simp⟩
 have hm':m=cap:=by rw[hm];rfl
 subst hm';rw[M1]at G4;have hd':=congrArg Prod.fst hxx;simp only at hd'
 subst hd';simp only[DataW.weights,ht]at hw;have hwl:len*P.bytesOf e<=B:=by have:=hw _ (bh ..);simp only[cT,wj]at this;exact aD (lQ _ aa) this
 have hwe:∀i,i<len->∀k∈(D i).weights P e,k<=B:=λi hi k hk=>hw k (aU _ (ef _ (rK hk (List.mem_map.2 ⟨i,List.mem_range.2 hi,rfl⟩))));obtain⟨ys,css,l,hll,Y0,hal,hk⟩:=DG hR h len (λi hi=>G4 i aa) hwe xs hx;have W0:css.length=len:=by rw[hal.len,hll]
 have hlens:∀c∈css,c.length=sz:=hal.lens;have hfl:(css.flatMap id).length=len*sz:=by rw[Dd hlens,W0]
 rcases rP m with hm0|hm0
 ·
  subst hm0;have Y4:len=0:=aa;subst Y4;obtain⟨b0,c0,e0,f0,hb0⟩:=hB;have W3:css=[]:=List.eq_nil_of_length_eq_zero W0;have Y4:l=[]:=List.eq_nil_of_length_eq_zero hll;subst W3 Y4;have V0:tq (lZ (xs++ys)) W [] ⟨b0,0,c0.size,0⟩:=⟨c0,e0,f0,hb0,rfl,Nat.zero_le _,ai _,λk x hk _=>absurd hk (Nat.not_lt_zero k)⟩;have hpush:=Ec (r:=⟨[],⟨b0,0,c0.size,0⟩⟩) Y0 V0;rw[bW]at hpush;have G5:=Cn (xs++ys) ⟨[],⟨b0,0,c0.size,0⟩⟩;have hhl:=Co (xs++ys) ⟨[],⟨b0,0,c0.size,0⟩⟩;rw[bW]at G5 hhl;refine⟨ys++[some ⟨[],⟨b0,0,c0.size,0⟩⟩],[.o (.sl (xs++ys).length 0 0 0 sz)],[],hpush,⟨⟨_,0,a,G5,?_,ai _,rfl,.inl rfl⟩,trivial⟩,rfl,_,rfl,⟨[],⟨by simp,.inr ⟨_,0,0,rfl,?_,[],?_,?_,by simp⟩⟩,trivial⟩,by simp⟩
  ·show 0+0*sz<=0;omega
  ·show(xs++ys).length<(xs++(ys++[_])).length;simp only[bA,List.length_cons,List.length_nil];omega
  ·rw[hhl];rfl
  simp
 
 have hblk:a.spot=none/\∃c e f,W.heap[a.block]?=some (.cells c e f):=by
  obtain⟨cs',h1,_⟩:=G4 0 hm0;obtain⟨_,h2,h3⟩:=World.cells?_some h1;have h4:=h3 0 I5;rw[Nat.zero_mul,Addr.add,ad rfl,Addr.add,ad rfl,aO aa]at h4;unfold World.cell? at h4;split at h4
  ·rename_i c e f hh
   split at h4
   ·cases h4
   rename_i hs
   exact⟨by cases hq:a.spot with|none=>rfl|some q=>rw[hq]at hs;exact absurd rfl hs,c,e,f,hh⟩
  cases h4
 obtain⟨j8,c,e',f',hc⟩:=hblk;obtain⟨b,o,sp⟩:=a;simp only at j8 hc
 subst j8;have addA:∀k:Nat,(⟨b,o,none⟩:Addr).add k=⟨b,o+k,none⟩:=λk=>by
  unfold Addr.add;split
  ·rename_i h0;rw[h0];rfl
  rfl
 have at_:∀k j,k<m->j<sz->∀cs',W.cells? 0 ((⟨b,o,none⟩:Addr).add (k*sz)) sz=some cs'->c[o+(k*sz+j)]?=cs'[j]?:=λk j hk hj cs' h1=>by obtain⟨_,h2,h3⟩:=World.cells?_some h1;have h4:=h3 j hj;rw[Deep.add_add,addA]at h4;rw[<-h4];unfold World.cell?;simp only[hc];rfl
 have hsize:o+m*sz<=c.size:=by
  obtain⟨cs',h1,_⟩:=G4 (m-1) aa;have h2:=(World.cells?_some h1).2.1;have h3:=at_ (m-1) (sz-1) aa aa cs' h1;rw[aO aa]at h3;have h4:=(Array.getElem?_eq_some_iff.1 h3).1;have h5:(m-1)*sz+sz=m*sz:=by rw[<-tY];congr 1;omega
  omega
 have hlm:len*sz<=m*sz:=lQ _ hl;have V0:tq (lZ (xs++ys)) W (css.flatMap id) ⟨b,o,c.size,len*sz⟩:=by
  refine⟨c,e',f',hc,rfl,?_,?_,λk x R3 U7=>?_⟩
  ·show o+len*sz<=c.size;omega
  ·show len*sz<=_;omega
  have hk3:k<len*sz:=R3;have hq:k/sz<len:=(Gv I5).2 hk3;have hr:k%sz<sz:=Nat.mod_lt _ I5;have S5:k=k/sz*sz+k%sz:=by have:=Nat.div_add_mod k sz;rw[yW]at this;omega
  obtain⟨c1,cs1,g1,g2,g3⟩:=hk (k/sz) hq;have g4:=at_ (k/sz) (k%sz) aa hr cs1 g2;have g5:=Az hlens g1;have hl1:cs1.length=sz:=(World.cells?_some g2).2.1;have g6:c1[k%sz]?=some x:=by rw[<-g5,lR,ad hr,gS,<-S5];exact U7
  rw[<-S5,aO aa]at g4;exact⟨_,g4,CRs.get g3 _ _ _ g6 (aO aa)⟩
 have hpush:=Ec (r:=⟨css.flatMap id,⟨b,o,c.size,len*sz⟩⟩) Y0 V0;have G5:=Cn (xs++ys) ⟨css.flatMap id,⟨b,o,c.size,len*sz⟩⟩;have hhl:=Co (xs++ys) ⟨css.flatMap id,⟨b,o,c.size,len*sz⟩⟩;rw[bW]at hpush G5 hhl;have B2:Gr (pP (xs++ys)) (pP (xs++(ys++[some ⟨css.flatMap id,⟨b,o,c.size,len*sz⟩⟩]))):=by rw[<-bW];exact yi _ _
 refine⟨ys++[some ⟨css.flatMap id,⟨b,o,c.size,len*sz⟩⟩],[.o (.sl (xs++ys).length 0 0 len sz)],l,hpush,⟨⟨_,m,_,G5,?_,hl,rfl,.inr ⟨rfl,?_⟩⟩,trivial⟩,rfl,_,rfl,
  ⟨css,⟨by rw[hll];exact hfl,.inr ⟨_,0,0,by rw[hll],?_,css.flatMap id,?_,?_,?_⟩⟩,hal.mono λc x⟨u,v⟩=>⟨u,hR _ _ _ _ _ v B2⟩⟩,by rw[hll];exact hwl⟩
 ·show 0+len*sz<=len*sz;omega
 ·show o+0+m*sz<=c.size;omega
 ·show(xs++ys).length<(xs++(ys++[_])).length;simp only[bA,List.length_cons,List.length_nil];omega
 ·rw[hhl];rfl
 ·rw[hll];omega
 rw[List.drop_zero,hll,iX aa]
def yh{f:α->List AC}:∀{css:List (List AC)}{l:List α},Al (λc x=>c=f x) css l->css.flatMap id=l.flatMap f
 |[],[],_=>rfl
 |c::css,x::l,h=>by rw[List.flatMap_cons,List.flatMap_cons,yh h.2,<-h.1];rfl
 |[],_::_,h=>h.elim
 |_::_,[],h=>h.elim
def Al.all{γ:Type}{R:γ->α->Prop}{Q:α->Prop}(hq:∀c x,R c x->Q x):∀{cs:List γ}{l:List α},Al R cs l->∀x∈l,Q x
 |[],[],_,x,hx=>by cases hx
 |c::cs,y::l,h,x,hx=>by
  rcases List.mem_cons.1 hx with rfl|hx
  ·exact hq c _ h.1
  exact Al.all hq h.2 x hx
 |[],_::_,h,_,_=>h.elim
 |_::_,[],h,_,_=>h.elim
end
def qB:=zDm @mE @RI @ML @RP @Yu @aaT @Tu @YF @YG @YE @Iq (zDm @List.map_cons.{0,0} @List.map_nil.{0,0} @List.getElem?_cons_zero.{0} @List.getElem?_cons_succ.{0} @Option.elim_some.{1,0} @Option.map_some.{0,0} @Option.bind_some.{0,0} @DJ @HD @No @decide_eq_true_eq (zDm @decide_true @decide_false @VM @IS @Kf @Ig @Iy @IY @YN @xW @xF (zDm @Nat.add_one_sub_one @Nat.one_mul @Uf @Ue @IW @aaL @Yy @Option.map_none.{0,0} @Nat.zero_lt_succ @Nat.le_add_left @EA (zDm @wz @MO @GV @RK @MN @GZ @RJ @RN @uk @um @GY (zDm @zu @xt @xr @zv @uq @GX @ta @RM @Cg @MM @Ah (zDm @Ar @Tk @NI @Tl @NN @NJ @YL @Ie @NO @an @bE (zDm @DT @aS @Nat.blt_eq @true_and @and_true @if_true.{1} @if_false.{1} @Bool.false_eq_true @Bool.true_eq_false @not_false_eq_true @Oh (zDm @FI @yC @Oi @xM @Ox @aJ @bu @ao @az @YJ @aaN (zDm @aaM @YA @ji @xz @de @yx @yy @OS @uQ @Bool.not_eq_true' @decide_eq_false_iff_not (zDm @ne_eq.{1} @CA @Cz @DC @DB @List.length_cons.{0} @List.length_nil.{0} @Nat.zero_add @Nat.add_zero @Nat.le_refl @Nat.zero_le (zDm @zY @xw @xv @uI @List.cons_append.{0} @List.nil_append.{0} @List.append_nil.{0} @aaO @YD @aaP @TC (zDm @TB @TA @Tz @Ty @TE @Tx @TF @TD @Vs @Vt @List.take_succ_cons.{0} (zDm @List.take_zero.{0} @List.drop_succ_cons.{0} @List.drop_zero.{0} @List.take_nil.{0} @List.drop_nil.{0} @List.headD_cons.{0} @Bool.not_true @Bool.not_false @Nat.lt_add_one @Nj @Yx (zDm @Hl @Nn @wA @EH @EG @EF @Ck @Il @Dc @Nat.zero_mul @Bh (zDm @xP @Ch @ur @IX @Kv @Um @vz @CE @xN @vB @uO (zB3 @NL @NK))))))))))))))))
def EZ(c:List AC):List Nat:=c.flatMap λa=>(AV.one a).ids
def abn:EZ []=[]:=rfl
def abm(a:AC)(c:List AC):EZ (a::c)=(AV.one a).ids++EZ c:=rfl
def abr(k:IntKind)(n:Int):(AV.one (.i k n)).ids=[]:=rfl
def abp(s:List UInt8):(AV.one (.o (.str s))).ids=[]:=rfl
section
variable{α:Type}
def FrR(R:Hp->List AC->α->Prop):Prop:=∀(Y:Nat->Prop)(H H':Hp)(c:List AC)(x:α),R H c x->Fr Y H H'->(∀id∈EZ c,¬Y id)->R H' c x
def LtR(R:Hp->List AC->α->Prop):Prop:=∀(H:Hp)(c:List AC)(x:α),R H c x->∀id∈EZ c,id<H.nx
structure om(R:Hp->List AC->α->Prop)(sz:Nat)(e:TypeId)(X:Nat->Prop)(H:Hp)(v:AC)(l:List α)(r:Option Nat):Prop where
 row:∀q,r=some q->¬X q/\q<H.nx
 own:∃css:List (List AC),dz H v e sz l.length (css.flatMap id) r/\Al (λc x=>c.length=sz/\R H c x/\∀id∈EZ c,¬X id/\some id≠r) css l
def dz.rlt{H:Hp}{v:AC}{e:TypeId}{sz n:Nat}{cells:List AC}{q:Nat}(h:dz H v e sz n cells (some q)):q<H.nx:=by
 rcases h with⟨_,_,_,e⟩|⟨id,lo,gen,e,_,_,_,_,hl⟩
 ·cases e
 cases e;exact hl
def om.nil{R:Hp->List AC->α->Prop}{sz:Nat}{e:TypeId}{X:Nat->Prop}{H:Hp}:om R sz e X H (.o .nilS) [] none where
 row:=λq hq=>by cases hq
 own:=⟨[],.inl ⟨rfl,rfl,rfl,rfl⟩,trivial⟩
def om.fr{R:Hp->List AC->α->Prop}(hR:FrR R)(hl:LtR R){sz:Nat}{e:TypeId}{X Y:Nat->Prop}{H H':Hp}{v:AC}{l:List α}{r:Option Nat}(h:om R sz e X H v l r)(hf:Fr Y H H')(hy:∀i,Y i->X i\/H.nx<=i):om R sz e X H' v l r where
 row:=λq hq=>⟨(h.row q hq).1,ay (h.row q hq).2 hf.nx⟩
 own:=by
  obtain⟨css,a,b⟩:=h.own;refine⟨css,a.fr hf λi hi hyi=>?_,b.mono λc x⟨h1,h2,h3⟩=>⟨h1,hR _ _ _ _ _ h2 hf λi hi hyi=>?_,h3⟩⟩
  ·have:=h.row i hi;rcases hy i hyi with h|h
   ·exact this.1 h
   omega
  have h4:=hl _ _ _ h2 i hi;rcases hy i hyi with h|h
  ·exact(h3 i hi).1 h
  omega
def om.gr{R:Hp->List AC->α->Prop}(hR:FrR R)(hl:LtR R){sz:Nat}{e:TypeId}{X:Nat->Prop}{H H':Hp}{v:AC}{l:List α}{r:Option Nat}(h:om R sz e X H v l r)(hf:Gr H H'):om R sz e X H' v l r:=h.fr hR hl hf λ_ h=>h.elim
def om.slr{R:Hp->List AC->α->Prop}{sz:Nat}{e:TypeId}{X:Nat->Prop}{H:Hp}{v:AC}{l:List α}{r:Option Nat}(h:om R sz e X H v l r):SlR R sz H v l:=by obtain⟨css,a,b⟩:=h.own;exact⟨css,a.slc,b.mono λc x⟨h1,h2,_⟩=>⟨h1,h2⟩⟩
def om.push{P:Program}{R:Hp->List AC->α->Prop}(hR:FrR R)(hl:LtR R){H:Hp}{t e:TypeId}{sz by_:Nat}{z:Value}{X:Nat->Prop}{v:AC}{l:List α}{r:Option Nat}(he:bV P t=some (e,sz))(hb:dA P e=some by_)(hz:ba P e=some z)(S2:(ofValue z).cells.length=sz)(M1:sz≠0)
  (ho:om R sz e X H v l r) (hX:∀i,X i->i<H.nx) {c0:List AC} {x:α} (hc0:c0.length=sz) (hx:R H c0 x) (hi:∀id∈EZ c0,¬X id/\some id≠r) (hL:l.length+1<=140737488355328/\(l.length+1)*by_<=140737488355328):
  ltV (.one v) (H.new (.arr c0 e 0 0)).nx/\∃v' H' r',bN P (H.new (.arr c0 e 0 0)) t (.one v) (.one (.o (.sl H.nx 0 0 1 sz)))=.val (.one v') H' /\
   om R sz e X H' v' (l++[x]) (some r')/\Fr (λi=>r=some i) H H'/\(r=some r'\/H.nx<=r'):=by
 obtain⟨css,a,b⟩:=ho.own;obtain⟨D0,v',H',r',X2,Z3,hf,hr⟩:=gZ he hb hz S2 M1 a c0 hc0 hL;have keep:∀c y,c.length=sz/\R H c y/\(∀id∈EZ c,¬X id/\some id≠r)->c.length=sz/\R H' c y/\∀id∈EZ c,¬X id/\some id≠some r':=λc y⟨h1,h2,h3⟩=>by
  refine⟨h1,hR _ _ _ _ _ h2 hf λi hi e=>(h3 i hi).2 e.symm,λi hi=>⟨(h3 i hi).1,λe=>?_⟩⟩;cases e
  rcases hr with h|h
  ·exact(h3 _ hi).2 h.symm
  have:=hl _ _ _ h2 _ hi;omega
 refine⟨D0,v',H',r',X2,⟨λq hq=>?_,css++[c0],?_,Al.app (b.mono keep) (keep _ _ ⟨hc0,hx,hi⟩)⟩,hf,hr⟩
 ·cases hq
  refine⟨λhh=>?_,Z3.rlt⟩;rcases hr with h|h
  ·exact(ho.row _ h).1 hh
  have:=hX _ hh;omega
 rw[pk,bA];have e1:([c0]:List (List AC)).flatMap id=c0:=by simp
 rw[e1];exact Z3
end
def tK{P:Program}{H:Hp}{t e:TypeId}{sz by_:Nat}{z:Value}{k k':IntKind}{n:Nat}(he:bV P t=some (e,sz))(hb:dA P e=some by_)(hz:ba P e=some z)(S2:(ofValue z).cells.length=sz)(hn:n<=1073741824/\n*by_<=140737488355328):
  dN P H t (.one (.i k (n:Int))) (.one (.i k' (n:Int)))=.val (.one (.o (.sl H.nx 0 0 n sz))) (H.new (.arr (mL (ofValue z).cells n) e 0 0)):=by
 have h1:Nat.ble n n=true:=bG (ai _);have h2:Nat.ble n 1073741824=true:=bG hn.1;have h3:Nat.ble (Nat.mul n by_) 140737488355328=true:=bG hn.2;have h4:Nat.beq (bU (ofValue z).cells) sz=true:=by rw[bP,S2];exact cN _
 unfold dN;rw[he];show nd (dA P e) _ _=_;rw[hb];show nd (ba P e) _ _=_;rw[hz];show aK (both (Nat.ble n n) (both (Nat.ble n 1073741824) (both (Nat.ble (Nat.mul n by_) 140737488355328) (Nat.beq (bU (ofValue z).cells) sz)))) _ _=_;rw[h1,h2,h3,h4];rfl
def yL{a:AC}:∀(n:Nat),mL [a] n=List.replicate n a
 |0=>rfl
 |n+1=>by show pE [a] (mL [a] n)=_;rw[yL n];rfl
def BW{H:Hp}{id g off len sz:Nat}{x:Int}(h0:0<=x)(h:x<len):dq H sz (.one (.o (.sl id g off len sz))) (.one (.i .i64 x))=.val (.one (.o (.ptr id g (off+x.toNat*sz) sz))) H:=by have h1:=lA (H:=H) (id:=id) (g:=g) (off:=off) (len:=len) (sz:=sz) (i:=x.toNat) aa;have h2:((x.toNat:Nat):Int)=x:=aa;rw[h2]at h1;exact h1
def Fl(bs:List Bool)(i:Nat):((bs.map AC.b).drop i).headD (.b false)=.b (bs.getD i false):=by
 rw[<-List.map_drop,bt];have:(bs.drop i)[0]?=bs[i]?:=by rw[gS];rfl
 rw[<-this];cases bs.drop i with
 |nil=>rfl
 |cons a l=>rfl
def setRow{α:Type}(f:α->AC)(l:List α)(i:Nat)(a:α)(h:i<l.length):(l.map f).take i++f a::(l.map f).drop (i+1)=(l.set i a).map f:=by rw[List.set_eq_take_append_cons_drop,ad h,List.map_append,List.map_cons,List.map_take,List.map_drop]
def Mk(bs:List Bool)(n:Nat)(S:List Int):Prop:=bs.length=n/\∀j:Nat,j<n->bs.getD j false=S.any λx=>x==(j:Int)
def Mk.nil(n:Nat):Mk (List.replicate n false) n []:=⟨wh,λj hj=>by rw[bt,List.getElem?_replicate,ad hj];rfl⟩
def Mk.set{bs:List Bool}{n:Nat}{S:List Int}(h:Mk bs n S){x:Int}(h0:0<=x)(hx:x<n):Mk (bs.set x.toNat true) n (S++[x]):=by
 refine⟨by rw[fq];exact h.1,λj hj=>?_⟩;have hj2:=h.2 j hj;rw[bt]at hj2 |-;rw[List.any_append,<-hj2];by_cases e:x.toNat=j
 ·have e2:(x==(j:Int))=true:=by rw[gP];omega
  rw[GB,ad e,ad (by rw[h.1];omega)];simp[e2]
 have e2:(x==(j:Int))=false:=aW aa;rw[sJ e];simp[e2]
def Mk.at{bs:List Bool}{n:Nat}{S:List Int}(h:Mk bs n S){x:Int}(h0:0<=x)(hx:x<n):bs.getD x.toNat false=S.any λy=>y==x:=by rw[h.2 _ aa];have h2:((x.toNat:Nat):Int)=x:=aa;rw[h2]
def Qf{P:Program}{W:World}{r:Reach}{base:Nat}{u:TypeId}{a:Addr}{l c:Nat}(h:Cell.okWide P W r base u (.slice (some a) l c)):sQ W:=by
 have h2:Cell.ok P W r base u (.slice (some a) l c):=by
  unfold Cell.okWide at h;cases hu:P.underlying u with
  |none=>rw[hu]at h;exact h
  |some d=>rw[hu]at h;cases d<;>exact h
 unfold Cell.ok at h2;cases hu:P.underlying u with
 |none=>rw[hu]at h2;exact h2.elim
 |some d=>
  rw[hu]at h2;cases d
  case slice e=>
   obtain⟨_,_,_,_,row,cells,hshape,_⟩:=h2;unfold World.shape? at hshape;split at hshape
   ·rename_i c e f hh;exact⟨_,c,e,f,hh⟩
   cases hshape
  all_goals exact h2.elim
section
variable{P:Program}{W:World}{α β:Type}
def aax(cs:List Value):Prop:=∀v∈cs,∀a l c,v≠.slice (some a) l c
def GU(P:Program)(W:World)(sz:Nat)(R:Nat->Hp->List AC->α->Prop)(t:TypeId):Prop:=
 ∀(H:Type)(enc:TypeId×Value->H)(fuel:Nat)(cs:List Value)(d:DataW H)(p:List MemPlace)(B:Nat),
  DataW.trod enc P W 0 (λ_=>true) true fuel t cs=some (d,p)->(∀n∈d.weights P t,n<=B)->aax cs ->
  ∀xs,ij W xs->∃ys c x,ij W (xs++ys)/\CRs (lZ (xs++ys)) c cs/\c.length=sz/\R B (pP (xs++ys)) c x
def Opn.z{sz:Nat}{R:Nat->Hp->List AC->α->Prop}{t:TypeId}(h:Opn P W sz R t):GU P W sz R t:=λH enc fuel cs d p B hd hw _ xs hx=>h H enc fuel cs d p B hd hw xs hx
def oQ{sz:Nat}{R:Nat->Hp->List AC->α->Prop}{t e:TypeId}(ht:P.underlying t=some (.slice e)):GU P W 1 (Gg P e sz R) t:=by
 intro H enc fuel cs d p B hd hw hz xs hx;rcases Deep.open_slice ht hd with⟨rfl,e1⟩|⟨a,len,cap,m,n,D,Pl,rfl,_⟩
 ·exact⟨[],[.o .nilS],[],by rwa [List.append_nil],⟨rfl,trivial⟩,rfl,.o .nilS,rfl,⟨[],⟨by simp,.inl ⟨rfl,rfl⟩⟩,trivial⟩,by simp⟩
 exact absurd rfl (hz _ (List.mem_singleton.2 rfl) a len cap)
def MI(P:Program)(W:World)(sz:Nat)(R:Nat->Hp->List AC->α->Prop)(ts:List TypeId):Prop:=
 ∀(H:Type)(enc:TypeId×Value->H)(n:Nat)(cs:List Value)(ys:List (DataW H×List MemPlace))(B:Nat),
  MJ enc P W n ts cs ys->(∀n∈DataW.weightsEach P ts (ys.map (·.1)),n<=B)->aax cs ->
  ∀xs,ij W xs->∃rs c x,ij W (xs++rs)/\CRs (lZ (xs++rs)) c cs/\c.length=sz/\R B (pP (xs++rs)) c x
def DF{sz:Nat}{R:Nat->Hp->List AC->α->Prop}{t:TypeId}(h:GU P W sz R t):MI P W sz R [t]:=by
 intro H enc n cs ys B hp hw hz xs hx;match ys,hp with
 |[y],⟨h1,h2,h3⟩=>
  have h3':cs.drop (P.cellsOf t)=[]:=h3;have e:cs.take (P.cellsOf t)=cs:=by have:=ud (P.cellsOf t) cs;rwa [h3',List.append_nil]at this
  rw[e]at h2;exact h H enc n cs y.1 y.2 B h2 (λn hn=>hw n (by simp[DataW.weightsEach,hn])) hz xs hx
def tP{sz sz':Nat}{R:Nat->Hp->List AC->α->Prop}{S:Nat->Hp->List AC->β->Prop}{t:TypeId}{ts:List TypeId}(h:GU P W sz R t)(hR:kU R)(hs:MI P W sz' S ts):MI P W (sz+sz') (lM R S) (t::ts):=by
 intro H enc n cs ys B hp hw hz xs hx;match ys,hp with
 |y::ys,⟨h1,h2,h3⟩=>
  obtain⟨r1,c1,x1,a1,a2,a3,a4⟩:=h H enc n _ y.1 y.2 B h2 (λn hn=>hw n (by simp[DataW.weightsEach,hn])) (λv hv=>hz v (List.mem_of_mem_take hv)) xs hx;obtain⟨r2,c2,x2,b1,b2,b3,b4⟩:=hs H enc n _ ys B h3 (λn hn=>hw n (by simp only[List.map_cons,DataW.weightsEach,js];exact .inr hn)) (λv hv=>hz v (GJ hv)) (xs++r1) a1;rw[bW]at b1 b2 b4;refine⟨r1++r2,c1++c2,(x1,x2),b1,?_,by rw[bA,a3,b3],c1,c2,rfl,?_,b4⟩
  ·have:=CRs.append (CRs.mono (by rw[<-bW];exact pO _ _) a2) b2;rwa [ud]at this
  exact hR _ _ _ _ _ a4 (by rw[<-bW];exact yi _ _)
def xO{sz:Nat}{R:Nat->Hp->List AC->α->Prop}{t:TypeId}{fs:Array Field}{ts:List TypeId}(ht:P.underlying t=some (.struct fs))(ho:wW P (P.cellsOf t) 0 fs.toList=true)(hts:fs.toList.map (·.type)=ts)(h:MI P W sz R ts):GU P W sz R t:=by
 intro H enc fuel cs d p B hd hw hz xs hx;obtain⟨ys,n,_,e,hl,hyl,hf⟩:=DataW.trod_struct ht hd;cases e
 rw[<-hl]at ho;have hp:=Bi (enc:=enc) (W:=W) (n:=n) (cs:=cs) fs.toList 0 ys ho (by rw[hyl];simp) (λi f hi=>hf i f (by simpa using hi));rw[hts,List.drop_zero]at hp;refine h H enc n cs ys B hp (λk hk=>hw k ?_) hz xs hx;simp only[DataW.weights,ht];rwa [hts]
def UG{sz:Nat}{R:Nat->Hp->List AC->α->Prop}{t:TypeId}{fs:Array Field}{v:Value}{base B:Nat}{H:Type}{enc:TypeId×Value->H}{d:DataW H}{p:List MemPlace}(ht:P.underlying t=some (.struct fs))(hO:sQ W->Opn P W sz R t)(hZ:GU P W sz R t)
  (hval:Value.okWide P W .any base t v) (hd:DataW.Trod enc P W 0 (λ_=>true) true t v d p) (hw:∀n∈d.weights P t,n<=B) (xs:List (Option lY)) (hx:ij W xs):
  ∃ys c l,ij W (xs++ys)/\AR (lZ (xs++ys)) (.agg c) v/\c.length=sz/\R B (pP (xs++ys)) c l:=by
 obtain⟨fuel,hf⟩:=hd;have hval':∃cs,v=.agg cs/\cs.size=P.cellsOf t/\Row.okWide P W .any base t cs:=by simp only[Value.okWide,ht]at hval;exact hval
 obtain⟨cs,rfl,M1,V0⟩:=hval';have G7:(Value.agg cs).cells.toList=cs.toList:=rfl;rw[G7]at hf;by_cases hB:sQ W
 ·obtain⟨ys,c,l,h1,h2,h3,h4⟩:=hO hB H enc fuel _ d p B hf hw xs hx;exact⟨ys,c,l,h1,⟨_,h2,by simp⟩,h3,h4⟩
 obtain⟨ys,c,l,h1,h2,h3,h4⟩:=hZ H enc fuel _ d p B hf hw (λw hw a l c e=>hB (by obtain⟨i,hi⟩:=List.mem_iff_getElem?.1 hw;obtain⟨ts,_,_,hr⟩:=V0;obtain⟨u,_,hu⟩:=hr i w (by rw[<-lS];exact hi);rw[e]at hu;exact Qf hu)) xs hx
 exact⟨ys,c,l,h1,⟨_,h2,by simp⟩,h3,h4⟩
def UB{t:TypeId}(ht:P.underlying t=some .bool):Opn P W 1 Sz t:=by intro H enc fuel cs d p B h hw xs hx;obtain⟨b,rfl,e,_⟩:=DataW.trod_bool ht h;exact⟨[],[.b b],b,by rwa [List.append_nil],⟨rfl,trivial⟩,rfl,rfl⟩
def Un:kU Sz:=λ_ _ _ _ _ h _=>h
end
def nW{P:Program}{tm:PT AV}{H:Hp}{o:Oper}{v:Value}(hx:(o.op.operands.toList.all λx=>(ev tm x).val?.isSome)=true)(he:aG P (execOp (λx=>bQ (ev tm x)) o)=some (.value v))(G0:okV v=true):
  aA P tm H o=.val (ofValue v) H:=by
 unfold aA;rw[hx,he];show aK true _ (aK (okV v) _ _)=_;rw[G0];rfl
def Qh(f:IntKind->Int->AC)(H:Hp)(alt:aj)(x:AV):aj:=match x with|.one (.i k a)=>.val (.one (f k a)) H|_=>alt
def tI(p:Int->Int->Prop)[∀a b,Decidable (p a b)](f:IntKind->Int->Int->AC)(H:Hp)(alt:aj)(x y:AV):aj:=
 match x,y with|.one (.i k a),.one (.i k' b)=>if k=k'/\p a b then .val (.one (f k a b)) H else alt|_,_=>alt
def Ft{p:Int->Int->Prop}[∀a b,Decidable (p a b)]{f:IntKind->Int->Int->AC}{H:Hp}{alt:aj}{k:IntKind}{a b:Int}(h:p a b):tI p f H alt (.one (.i k a)) (.one (.i k b))=.val (.one (f k a b)) H:=ad ⟨rfl,h⟩
variable{P:Program}{tm:PT AV}{H:Hp}{d:Option Tmp}{ty:TypeId}{pos:String}{af:Array Edge}{g:Option (Nat×Bool)}
def oZ{x:AV}{k:IntKind}{a:Int}(h:x=.one (.i k a)):bQ x=.int k a:=by subst h;rfl
def QR{t c:TypeId}{x y:Operand}:aA P tm H ⟨d,.binOp .quo t x y c,ty,pos,af,g⟩=tI (λ_ b=>b≠0) (λk a b=>.i k (k.wrap (a.tdiv b))) H (cu P tm H ⟨d,.binOp .quo t x y c,ty,pos,af,g⟩) (ev tm x) (ev tm y):=by
 unfold tI;split
 ·rename_i k a k' b hx hy
  by_cases h:k=k'/\b≠0
  ·rw[ad h];obtain⟨rfl,hb⟩:=h;refine nW (v:=.int k (k.wrap (a.tdiv b))) ?_ ?_ rfl
   ·show([x,y].all λx=>(ev tm x).val?.isSome)=true;simp only[List.all_cons,List.all_nil,hx,hy];rfl
   show aG P (Sem.bind (Sem.bind (eqGuard .quo t x y (bQ (ev tm x)) (bQ (ev tm y))) λ_=>binOp .quo t (bQ (ev tm x)) (bQ (ev tm y))) λv=>Sem.pure (Next.value v))=_;rw[oZ hx,oZ hy];have e:binOp .quo t (.int k a) (.int k b)=pure (.int k (k.wrap (a.tdiv b))):=by show(if k≠k then _ else Op.intDiv .quo k a b)=_;rw[ab (by simp)];unfold Op.intDiv;rw[ab hb]
   show aG P (Sem.bind (binOp .quo t (.int k a) (.int k b)) λv=>Sem.pure (Next.value v))=_;rw[e];rfl
  rw[ab h];rfl
 rfl
def QS{t c:TypeId}{x y:Operand}:aA P tm H ⟨d,.binOp .rem t x y c,ty,pos,af,g⟩=tI (λ_ b=>b≠0) (λk a b=>.i k (a.tmod b)) H (cu P tm H ⟨d,.binOp .rem t x y c,ty,pos,af,g⟩) (ev tm x) (ev tm y):=by
 unfold tI;split
 ·rename_i k a k' b hx hy
  by_cases h:k=k'/\b≠0
  ·rw[ad h];obtain⟨rfl,hb⟩:=h;refine nW (v:=.int k (a.tmod b)) ?_ ?_ rfl
   ·show([x,y].all λx=>(ev tm x).val?.isSome)=true;simp only[List.all_cons,List.all_nil,hx,hy];rfl
   show aG P (Sem.bind (Sem.bind (eqGuard .rem t x y (bQ (ev tm x)) (bQ (ev tm y))) λ_=>binOp .rem t (bQ (ev tm x)) (bQ (ev tm y))) λv=>Sem.pure (Next.value v))=_;rw[oZ hx,oZ hy];have e:binOp .rem t (.int k a) (.int k b)=pure (.int k (a.tmod b)):=by show(if k≠k then _ else Op.intDiv .rem k a b)=_;rw[ab (by simp)];unfold Op.intDiv;rw[ab hb]
   show aG P (Sem.bind (binOp .rem t (.int k a) (.int k b)) λv=>Sem.pure (Next.value v))=_;rw[e];rfl
  rw[ab h];rfl
 rfl
def Bm{s t:TypeId}{ks kt:IntKind}{x:Operand}(hs:P.underlying s=some (.int ks))(ht:P.underlying t=some (.int kt)):
  aA P tm H ⟨d,.convert s t x,ty,pos,af,g⟩=Qh (λ_ a=>.i kt (kt.wrap a)) H (cu P tm H ⟨d,.convert s t x,ty,pos,af,g⟩) (ev tm x):=by
 unfold Qh;split
 ·rename_i k a hx
  refine nW (v:=.int kt (kt.wrap a)) ?_ ?_ rfl
  ·show([x].all λx=>(ev tm x).val?.isSome)=true;simp only[List.all_cons,List.all_nil,hx];rfl
  show aG P (Sem.bind (convert s t (bQ (ev tm x))) λv=>Sem.pure (Next.value v))=_;rw[oZ hx,bz];unfold convert;rw[bM,cH hs];simp only[Option.bind_some];rw[bM,cH ht];rfl
 rfl
def ZI{kd:Nat}{k k':IntKind}{a b:Int}{alt:aj}:cr H kd .rem (fL .rem) (.one (.i k a)) (.one (.i k' b)) alt=alt:=by cases k<;>cases k'<;>rfl
def ZH{kd:Nat}{k k':IntKind}{a b:Int}{alt:aj}:cr H kd .quo (fL .quo) (.one (.i k a)) (.one (.i k' b)) alt=alt:=by cases k<;>cases k'<;>rfl
def Hd(p:Prop):Prop:=p
theorem Hd.out{p:Prop}(h:Hd p):p:=h
theorem qA{a b:Prop}(h:a)(k:b):a/\b:=⟨h,k⟩
inductive WK(E:Env)(r:Option Nat)(Q:ax->ag->Hp->Prop)(B:ag)(H:Hp):Code->Prop
 |ret:Q .ret B H->WK E r Q B H .ret
 |exit (id:Nat):Q (.exit id) B H->WK E r Q B H (.exit id)
 |skip:Q .normal B H->WK E r Q B H .skip
 |Bu (z:Code):Q .ret B H->WK E r Q B H (.seq .ret z)
 |tT (id:Nat) (z:Code):Q (.exit id) B H->WK E r Q B H (.seq (.exit id) z)
 |aM (x y z:Code):R1 E r (.seq x (.seq y z)) B H Q->WK E r Q B H (.seq (.seq x y) z)
 |cq (z:Code):R1 E r z B H Q->WK E r Q B H (.seq .skip z)
 |oU (x z:Code):R1 E r (.seq x z) B H Q->WK E r Q B H (.seq (.scope x) z)
section
variable{E:Env}{r:Option Nat}{c z:Code}{B:ag}{H:Hp}{Q:ax->ag->Hp->Prop}
def R1.w(h:WK E r Q B H c):R1 E r c B H Q:=by
 cases h with
 |ret h=>exact R1.ret h
 |exit id h=>exact R1.exit h
 |skip h=>exact R1.skip h
 |Bu z h=>exact R1.Bu h
 |tT id z h=>exact R1.tT h
 |aM x y z h=>exact R1.aM h
 |cq z h=>exact R1.cq h
 |oU x z h=>exact R1.oU h
def R1.s_r{id:Nat}{ops:Array Oper}{dr:Bool}(hs:(bif dr then rD false ops else true)=true)(h:∀K:ag->Hp->Prop,(∀B H,R1 E r z B H Q->K B H)->SG false E K (ops.toList.map λo=>gOf ops.toList o.guard) ops.toList B H):R1 E r (.seq (.region id ops dr) z) B H Q:=by
 cases dr with
 |true=>exact R1.JR hs h
 |false=>exact R1.wY h
def R1.e_r{id:Nat}{ops:Array Oper}{dr:Bool}(hs:(bif dr then rD false ops else true)=true)(h:∀K:ag->Hp->Prop,(∀B H,Q .normal B H->K B H)->SG false E K (ops.toList.map λo=>gOf ops.toList o.guard) ops.toList B H):R1 E r (.region id ops dr) B H Q:=by
 cases dr with
 |true=>exact R1.Ll hs h
 |false=>exact R1.Lk h
end
theorem qW{p a b:Prop}(f:p)(hb:b)(e:p->Hd b->a:=by
  intro f hW;repeat' first|(refine R1.w ?_;constructor)|((first|refine R1.s_r ae λK hK=>?_|refine R1.e_r ae λK hK=>?_);simp only[qB,bc,Nat.reduceLT,Nat.reduceEqDiff,Nat.reduceLeDiff,reduceIte,Nat.reduceAdd,Nat.reduceSub,Nat.reduceMul,Int.reduceLT,Int.reduceLE,Int.reduceBEq,f];apply hK;clear hK K)
  exact hW.out):a:=e f hb
theorem qV{a b:Prop}(hb:b)(e:Hd b->a:=by
  intro hW;repeat' first|(refine R1.w ?_;constructor)|((first|refine R1.s_r ae λK hK=>?_|refine R1.e_r ae λK hK=>?_);simp only[qB,bc,Nat.reduceLT,Nat.reduceEqDiff,Nat.reduceLeDiff,reduceIte,Nat.reduceAdd,Nat.reduceSub,Nat.reduceMul,Int.reduceLT,Int.reduceLE,Int.reduceBEq];apply hK;clear hK K)
  exact hW.out):a:=e hb
theorem qG{p a b:Prop}(f:p)(hb:b)(e:p->Hd b->a:=by
  intro f hW;repeat refine R1.aM ?_
  (first|refine R1.s_r ae λK hK=>?_|refine R1.e_r ae λK hK=>?_)
  simp only[qB,bc,Nat.reduceLT,Nat.reduceEqDiff,Nat.reduceLeDiff,reduceIte,Nat.reduceAdd,Nat.reduceSub,Nat.reduceMul,Int.reduceLT,Int.reduceLE,Int.reduceBEq,f];revert K
  exact hW.out):a:=e f hb
theorem qH{p a b:Prop}(f:p)(hb:b)(e:p->Hd b->a:=by
  intro f hW;repeat refine R1.aM ?_
  (first|refine R1.aa9 ae λK hK=>?_|refine R1.e_sg ae λK hK=>?_)
  simp only[qB,bc,Nat.reduceLT,Nat.reduceEqDiff,Nat.reduceLeDiff,reduceIte,Nat.reduceAdd,Nat.reduceSub,Nat.reduceMul,Int.reduceLT,Int.reduceLE,Int.reduceBEq,f];revert K
  exact hW.out):a:=e f hb
theorem qS{p a b:Prop}(f:p)(hb:b)(e:p->Hd b->a:=by intro f hW;simp only[qB,bc,Nat.reduceLT,Nat.reduceEqDiff,Nat.reduceLeDiff,reduceIte,Nat.reduceAdd,Nat.reduceSub,Nat.reduceMul,Int.reduceLT,Int.reduceLE,Int.reduceBEq,f];exact hW.out):a:=e f hb
theorem qT{a b:Prop}(hb:b)(e:Hd b->a:=by intro hW;simp only[qB,bc,Nat.reduceLT,Nat.reduceEqDiff,Nat.reduceLeDiff,reduceIte,Nat.reduceAdd,Nat.reduceSub,Nat.reduceMul,Int.reduceLT,Int.reduceLE,Int.reduceBEq];exact hW.out):a:=e hb
theorem qZ{p a:Prop}(f:p)(e:p->a:=by intro f;simp only[qB,bc,Nat.reduceLT,Nat.reduceEqDiff,Nat.reduceLeDiff,reduceIte,Nat.reduceAdd,Nat.reduceSub,Nat.reduceMul,Int.reduceLT,Int.reduceLE,Int.reduceBEq,f]):a:=e f
theorem qU{a:Prop}(e:a:=by simp only[qB,bc,Nat.reduceLT,Nat.reduceEqDiff,Nat.reduceLeDiff,reduceIte,Nat.reduceAdd,Nat.reduceSub,Nat.reduceMul,Int.reduceLT,Int.reduceLE,Int.reduceBEq]):a:=e
theorem qE{a b:Prop}(hb:b)(e:Hd b->a:=by
  intro hW;repeat refine R1.aM ?_
  (first|refine R1.Ed λKx Ky hx hy=>?_|refine R1.CG λKx Ky hx hy=>?_)
  simp only[qB,bc,Nat.reduceLT,Nat.reduceEqDiff,Nat.reduceLeDiff,reduceIte,Nat.reduceAdd,Nat.reduceSub,Nat.reduceMul,Int.reduceLT,Int.reduceLE,Int.reduceBEq];revert Kx Ky
  exact hW.out):a:=e hb
theorem qX{p a b:Prop}(f:p)(hb:b)(e:p->Hd b->a:=by
  intro f hW;repeat refine R1.aM ?_
  (first|refine R1.Ed λKx Ky hx hy=>?_|refine R1.CG λKx Ky hx hy=>?_)
  simp only[qB,bc,Nat.reduceLT,Nat.reduceEqDiff,Nat.reduceLeDiff,reduceIte,Nat.reduceAdd,Nat.reduceSub,Nat.reduceMul,Int.reduceLT,Int.reduceLE,Int.reduceBEq,f]
  (first|refine hx ?_|refine hy ?_)
  exact hW.out):a:=e f hb
theorem qY{a b:Prop}(hb:b)(e:Hd b->a:=by
  intro hW;repeat refine R1.aM ?_
  (first|refine R1.Ed λKx Ky hx hy=>?_|refine R1.CG λKx Ky hx hy=>?_)
  simp only[qB,bc,Nat.reduceLT,Nat.reduceEqDiff,Nat.reduceLeDiff,reduceIte,Nat.reduceAdd,Nat.reduceSub,Nat.reduceMul,Int.reduceLT,Int.reduceLE,Int.reduceBEq]
  (first|refine hx ?_|refine hy ?_)
  exact hW.out):a:=e hb
theorem qp{p:Prop}(e:p:=by simp only[an,mE,Nat.reduceEqDiff,reduceIte]):p:=e
theorem qd{p q:Prop}(f:q)(e:q->p:=by intro f;simp only[aS,f]):p:=e f
theorem ixC{len i:Nat}(h:i<len):∀(H:Hp)(id g off sz:Nat),dq H sz (.one (.o (.sl id g off len sz))) (.one (.i .i64 (i:Int)))=.val (.one (.o (.ptr id g (off+i*sz) sz))) H:=λ_ _ _ _ _=>lA h
theorem ixI{len:Nat}{x:Int}(h0:0<=x)(h:x<len):∀(H:Hp)(id g off sz:Nat),dq H sz (.one (.o (.sl id g off len sz))) (.one (.i .i64 x))=.val (.one (.o (.ptr id g (off+x.toNat*sz) sz))) H:=λ_ _ _ _ _=>BW h0 h
theorem slH{len i:Nat}(h:i<=len):∀(H:Hp)(id g off sz:Nat)(k:IntKind)(alt:aj),ep H sz (.one (.o (.sl id g off len sz))) none (some (.one (.i k (i:Int)))) alt=.val (.one (.o (.sl id g off i sz))) H:=λ_ _ _ _ _ _ _=>JX h
theorem slL{len i:Nat}(h:i<=len):∀(H:Hp)(id g off sz:Nat)(k:IntKind)(alt:aj),ep H sz (.one (.o (.sl id g off len sz))) (some (.one (.i k (i:Int)))) none alt=.val (.one (.o (.sl id g (off+i*sz) (len-i) sz))) H:=λ_ _ _ _ _ _ _=>Vm h
theorem rq(z:List AC):mL z 1=z:=Vb
section
variable{E:Env}{r:Option Nat}{x y z:Code}{B:ag}{H:Hp}{Q:ax->ag->Hp->Prop}
def R1.s_h{id:Nat}{ops:Array Oper}{dr:Bool}(hs:(bif dr then rD false ops else true)=true)(h:∀K:ag->Hp->Prop,Hd (∀B H,R1 E r z B H Q->K B H)->SG false E K (ops.toList.map λo=>gOf ops.toList o.guard) ops.toList B H):R1 E r (.seq (.region id ops dr) z) B H Q:=R1.s_r hs h
def R1.e_h{id:Nat}{ops:Array Oper}{dr:Bool}(hs:(bif dr then rD false ops else true)=true)(h:∀K:ag->Hp->Prop,Hd (∀B H,Q .normal B H->K B H)->SG false E K (ops.toList.map λo=>gOf ops.toList o.guard) ops.toList B H):R1 E r (.region id ops dr) B H Q:=R1.e_r hs h
def R1.s_hs{id:Nat}{ops:Array Oper}(hs:rD true ops=true)(h:∀K:ag->Hp->Prop,Hd (∀B H,R1 E r z B H Q->K B H)->SG true E K (ops.toList.map λo=>gOf ops.toList o.guard) ops.toList B H):R1 E r (.seq (.region id ops true) z) B H Q:=R1.aa9 hs h
def R1.ZZ{c:Operand}(h:∀Kx Ky:Prop,Hd (R1 E r (.seq x z) B H Q->Kx)->Hd (R1 E r (.seq y z) B H Q->Ky)->tx (ev B.tm c) λb=>if b=true then Kx else Ky):R1 E r (.seq (.cond c x y) z) B H Q:=R1.Ed h
def R1.Zw{c:Operand}(h:∀Kx Ky:Prop,Hd (R1 E r x B H Q->Kx)->Hd (R1 E r y B H Q->Ky)->tx (ev B.tm c) λb=>if b=true then Kx else Ky):R1 E r (.cond c x y) B H Q:=R1.CG h
def R1.ed{id:Nat}(h:∀K:ax->ag->Hp->Prop,Hd (∀B H,R1 E r z B H Q->K .normal B H)->Hd (∀B H,R1 E r z B H Q->K (.exit id) B H)->Hd (∀i B H,i≠id->Q (.exit i) B H->K (.exit i) B H)->Hd (∀B H,Q .ret B H->K .ret B H)->R1 E r x B H K):R1 E r (.seq (.block id x) z) B H Q:=R1.bJ h
def R1.cR{id:Nat}(h:∀K:ax->ag->Hp->Prop,Hd (∀B H,Q .normal B H->K .normal B H)->Hd (∀B H,Q .normal B H->K (.exit id) B H)->Hd (∀i B H,i≠id->Q (.exit i) B H->K (.exit i) B H)->Hd (∀B H,Q .ret B H->K .ret B H)->R1 E r x B H K):R1 E r (.block id x) B H Q:=R1.mh h
def Hd.ap{K:ag->Hp->Prop}{Z:ag->Hp->Prop}(h:Hd (∀B H,Z B H->K B H)){B:ag}{H:Hp}(k:Z B H):K B H:=h _ _ k
end
theorem zW{p a b:Prop}(f:p)(hb:b)(e:p->Hd b->a:=by
  intro f hW;repeat' first|(refine R1.w ?_;constructor)|((first|refine R1.s_h ae λK hK=>?_|refine R1.e_h ae λK hK=>?_);simp only[qB,bc,Nat.reduceLT,Nat.reduceEqDiff,Nat.reduceLeDiff,reduceIte,Nat.reduceAdd,Nat.reduceSub,Nat.reduceMul,Int.reduceLT,Int.reduceLE,Int.reduceBEq, *];apply hK.out;clear hK K)|((first|refine R1.ZZ λKx Ky hx hy=>?_|refine R1.Zw λKx Ky hx hy=>?_);simp only[qB,bc,Nat.reduceLT,Nat.reduceEqDiff,Nat.reduceLeDiff,reduceIte,Nat.reduceAdd,Nat.reduceSub,Nat.reduceMul,Int.reduceLT,Int.reduceLE,Int.reduceBEq, *];(first|refine hx.out ?_|refine hy.out ?_);clear hx hy Kx Ky)
  exact hW.out):a:=e f hb
theorem zG{p a b:Prop}(f:p)(hb:b)(e:p->Hd b->a:=by
  intro f hW;repeat refine R1.aM ?_
  (first|refine R1.s_h ae λK hK=>?_|refine R1.e_h ae λK hK=>?_)
  simp only[qB,bc,Nat.reduceLT,Nat.reduceEqDiff,Nat.reduceLeDiff,reduceIte,Nat.reduceAdd,Nat.reduceSub,Nat.reduceMul,Int.reduceLT,Int.reduceLE,Int.reduceBEq, *];revert K
  exact hW.out):a:=e f hb
theorem zH{p a b:Prop}(f:p)(hb:b)(e:p->Hd b->a:=by
  intro f hW;repeat refine R1.aM ?_
  (first|refine R1.s_hs ae λK hK=>?_|refine R1.e_hs ae λK hK=>?_)
  simp only[qB,bc,Nat.reduceLT,Nat.reduceEqDiff,Nat.reduceLeDiff,reduceIte,Nat.reduceAdd,Nat.reduceSub,Nat.reduceMul,Int.reduceLT,Int.reduceLE,Int.reduceBEq, *];revert K
  exact hW.out):a:=e f hb
theorem zS{p a b:Prop}(f:p)(hb:b)(e:p->Hd b->a:=by intro f hW;simp only[qB,bc,Nat.reduceLT,Nat.reduceEqDiff,Nat.reduceLeDiff,reduceIte,Nat.reduceAdd,Nat.reduceSub,Nat.reduceMul,Int.reduceLT,Int.reduceLE,Int.reduceBEq, *];exact hW.out):a:=e f hb
theorem zK{p a b:Prop}(f:p)(hb:b)(e:p->Hd b->a:=by
  intro f hW;try simp only[qB,bc,Nat.reduceLT,Nat.reduceEqDiff,Nat.reduceLeDiff,reduceIte,Nat.reduceAdd,Nat.reduceSub,Nat.reduceMul,Int.reduceLT,Int.reduceLE,Int.reduceBEq, *]
  refine Hd.ap (Z:=?_) ?_ ?_;rotate_left
  ·assumption
  repeat' first|(refine R1.w ?_;constructor)|((first|refine R1.s_h ae λK hK=>?_|refine R1.e_h ae λK hK=>?_);simp only[qB,bc,Nat.reduceLT,Nat.reduceEqDiff,Nat.reduceLeDiff,reduceIte,Nat.reduceAdd,Nat.reduceSub,Nat.reduceMul,Int.reduceLT,Int.reduceLE,Int.reduceBEq, *];apply hK.out;clear hK K)|((first|refine R1.ZZ λKx Ky hx hy=>?_|refine R1.Zw λKx Ky hx hy=>?_);simp only[qB,bc,Nat.reduceLT,Nat.reduceEqDiff,Nat.reduceLeDiff,reduceIte,Nat.reduceAdd,Nat.reduceSub,Nat.reduceMul,Int.reduceLT,Int.reduceLE,Int.reduceBEq, *];(first|refine hx.out ?_|refine hy.out ?_);clear hx hy Kx Ky)
  exact hW.out):a:=e f hb
theorem zI{p a b c:Prop}(f:p)(hb:b)(hc:c)(e:p->Hd b->Hd c->a:=by
  intro f hW hV;repeat refine R1.aM ?_
  (first|refine R1.ZZ λKx Ky hx hy=>?_|refine R1.Zw λKx Ky hx hy=>?_)
  simp only[qB,bc,Nat.reduceLT,Nat.reduceEqDiff,Nat.reduceLeDiff,reduceIte,Nat.reduceAdd,Nat.reduceSub,Nat.reduceMul,Int.reduceLT,Int.reduceLE,Int.reduceBEq, *];refine kG ?_ ?_
  ·refineλhq=>hx.out ?_
   revert hq
   exact hW.out
  refineλhq=>hy.out ?_
  revert hq
  exact hV.out):a:=e f hb hc
theorem zL{p:Prop}(e:p:=by repeat' (first|(simp only[an,mE,Nat.reduceEqDiff,reduceIte,bE,aS, *];first|done|rfl)|refine⟨?_,?_⟩)):p:=e
theorem qe{p:Prop}(e:p:=by first|(simp only[aS, *];done)|rfl):p:=e
theorem arQ:(∀(P:Program)(tm:PT AV)(H:Hp)(d:Option Tmp)(ty:TypeId)(pos:String)(af:Array Edge)(g:Option (Nat×Bool))(t c:TypeId)(x y:Operand),aA P tm H ⟨d,.binOp .quo t x y c,ty,pos,af,g⟩=tI (λ_ b=>b≠0) (λk a b=>.i k (k.wrap (a.tdiv b))) H (cu P tm H ⟨d,.binOp .quo t x y c,ty,pos,af,g⟩) (ev tm x) (ev tm y)) /\
  (∀(P:Program)(tm:PT AV)(H:Hp)(d:Option Tmp)(ty:TypeId)(pos:String)(af:Array Edge)(g:Option (Nat×Bool))(t c:TypeId)(x y:Operand),aA P tm H ⟨d,.binOp .rem t x y c,ty,pos,af,g⟩=tI (λ_ b=>b≠0) (λk a b=>.i k (a.tmod b)) H (cu P tm H ⟨d,.binOp .rem t x y c,ty,pos,af,g⟩) (ev tm x) (ev tm y)) /\
  (∀(H:Hp)(kd:Nat)(k k':IntKind)(a b:Int)(alt:aj),cr H kd .quo (fL .quo) (.one (.i k a)) (.one (.i k' b)) alt=alt)/\(∀(H:Hp)(kd:Nat)(k k':IntKind)(a b:Int)(alt:aj),cr H kd .rem (fL .rem) (.one (.i k a)) (.one (.i k' b)) alt=alt):=
 ⟨λ_ _ _ _ _ _ _ _ _ _ _ _=>QR,λ_ _ _ _ _ _ _ _ _ _ _ _=>QS,λ_ _ _ _ _ _ _=>ZH,λ_ _ _ _ _ _ _=>ZI⟩
theorem tS{b:Int}(h:b≠0):∀(H:Hp)(alt:aj)(k:IntKind)(a:Int),tI (λ_ b=>b≠0) (λk a b=>.i k (k.wrap (a.tdiv b))) H alt (.one (.i k a)) (.one (.i k b))=.val (.one (.i k (k.wrap (a.tdiv b)))) H:=λ_ _ _ _=>Ft h
theorem aa5{b:Int}(h:b≠0):∀(H:Hp)(alt:aj)(k:IntKind)(a:Int),tI (λ_ b=>b≠0) (λk a b=>.i k (a.tmod b)) H alt (.one (.i k a)) (.one (.i k b))=.val (.one (.i k (a.tmod b))) H:=λ_ _ _ _=>Ft h
theorem Ek{H:Hp}{v:AC}{sz n:Nat}{cells:List AC}(hv:SlC H v sz n cells):mB H sz (.one v)=some (n,cells):=by
 rcases hv with⟨hc,⟨rfl,rfl⟩|⟨id,g,off,rfl,hid,row,hg,hle,hcut⟩⟩
 ·rw[Nat.zero_mul]at hc;have hc:=List.eq_nil_of_length_eq_zero hc;subst hc;rfl
 rw[xf hg hle,hcut]
theorem Na{P:Program}{H:Hp}{t e:TypeId}{sz by_ n:Nat}{z:Value}{v:AC}{cells:List AC}(he:bV P t=some (e,sz))(hb:dA P e=some by_)(hz:ba P e=some z)(S2:(ofValue z).cells.length=sz)(M1:sz≠0)
  (hv:SlC H v sz n cells) (h2:n<=140737488355328/\n*by_<=140737488355328):∃v' H' r',bN P H t (.one (.o .nilS)) (.one v)=.val (.one v') H'/\dz H' v' e sz n cells r'/\Gr H H'/\∀i,r'=some i->H.nx<=i:=by
 have ha:=zD he hb hz S2 M1 (Ek hv) h2.1 h2.2;rcases rP n with h0|h0
 ·refine⟨.o .nilS,H,none,ha.trans (ad h0),.inl ⟨rfl,h0,?_,rfl⟩,Fr.refl _,λ_ h=>by cases h⟩;have:=hv.1;rw[h0,Nat.zero_mul]at this;exact List.eq_nil_of_length_eq_zero this
 exact⟨.o (.sl H.nx 0 0 n sz),H.new (.arr cells e 0 0),some H.nx,ha.trans (ab aa),.inr ⟨H.nx,0,0,rfl,rfl,aJ rfl,ai _,hv.1,aZ _⟩,(Fr.refl _).new _,λi h=>by cases h;exact ai _⟩
theorem Cm{P:Program}{H:Hp}{t e:TypeId}{sz by_ n id:Nat}{z:Value}{v:AC}{cells:List AC}(he:bV P t=some (e,sz))(hb:dA P e=some by_)(hz:ba P e=some z)(S2:(ofValue z).cells.length=sz)(M1:sz≠0)
  (hg:H.get id=some (.arr [] e 0 0)) (hid:id<H.nx) (hv:SlC H v sz n cells) (h2:n<=140737488355328/\n*by_<=140737488355328):∃v' H',bN P H t (.one (.o (.sl id 0 0 0 sz))) (.one v)=.val (.one v') H'/\dz H' v' e sz n cells (some id)/\Fr (λi=>i=id) H H':=by
 have ho:dz H (.o (.sl id 0 0 0 sz)) e sz 0 [] (some id):=.inr ⟨id,0,0,rfl,rfl,hg,ai _,by rw[Nat.zero_mul];rfl,hid⟩;have hs:=Ek hv;rcases rP n with h0|h0
 ·subst h0;have hc:cells=[]:=by have:=hv.1;rw[Nat.zero_mul]at this;exact List.eq_nil_of_length_eq_zero this
  subst hc;refine⟨.o (.sl id 0 0 0 sz),H,?_,ho,Fr.refl _⟩;have e1:Nat.beq sz 0=false:=by
   cases h:Nat.beq sz 0 with
   |false=>rfl
   |true=>exact absurd (aN h) M1
  have e3:both (!Nat.beq sz 0) (Nat.beq (bU (ofValue z).cells) sz)=true:=by rw[e1,bP,S2,cN];rfl
  have step:bN P H t (.one (.o (.sl id 0 0 0 sz))) (.one v)=eP H e sz by_ 0 [] (.one (.o (.sl id 0 0 0 sz))):=by unfold bN;simp only[he,hb,hz,nd,e3,aK,hs]
  rw[step];show pQ (H.get id) _ _=_;rw[hg];show aK (both (Nat.beq sz sz) (both (Nat.beq e e) (both (Nat.ble 0 0) (both (Nat.ble 0 0) (both (Nat.ble (Nat.add 0 (Nat.mul 0 sz)) (bU ([]:List AC))) (both (Nat.ble (Nat.add 0 0) 140737488355328) (Nat.ble (Nat.mul (Nat.add 0 0) by_) 140737488355328))))))) _
   (Eng.ifE (Nat.beq 0 0) _ (Eng.ifE (both (Nat.beq 0 0) (both (Nat.beq 0 0) (Nat.beq (Nat.mul 0 sz) (bU ([]:List AC))))) _ _))=_
  have z1:Nat.mul 0 sz=0:=Nat.zero_mul sz;have z2:Nat.mul (Nat.add 0 0) by_=0:=Nat.zero_mul by_;rw[cN,cN,z1,z2];rfl
 obtain⟨v',H',r',h1,h3,h4,h5⟩:=zE (n:=0) he hb hz S2 M1 ho hs aa hv.1 aa (by rw[Nat.zero_add];exact h2.2);rw[Nat.zero_add,gQ]at h3;rcases h5 with h5|⟨h5,_⟩
 ·cases h5
  exact⟨v',H',h1,h3,h4.mono λi h=>by cases h;rfl⟩
 cases h5
theorem Lo{H:Hp}{id g off n sz:Nat}{alt:aj}{f:BF}:cr H 1 .eql f (.one (.o (.sl id g off n sz))) (.one (.o .nilS)) alt=.val (.one (.b false)) H:=rfl
theorem Th{H:Hp}{alt:aj}{f:BF}:cr H 1 .eql f (.one (.o .nilS)) (.one (.o .nilS)) alt=alt:=rfl
def Jq(r:Bool)(H:Hp)(alt:aj)(x y:AV):aj:=
 match x,y with
 |.one (.o .nilS),.one (.o .nilS)=>.val (.one (.b r)) H
 |_,_=>alt
theorem Xx{r:Bool}{H:Hp}{alt:aj}:Jq r H alt (.one (.o .nilS)) (.one (.o .nilS))=.val (.one (.b r)) H:=rfl
theorem LV{P:Program}{tm:PT AV}{H:Hp}{d:Option Tmp}{t c:TypeId}{et:TypeId}{x y:Operand}{ty:TypeId}{pos:String}{af:Array Edge}{g:Option (Nat×Bool)}(h:P.underlying t=some (.slice et)):
  aA P tm H ⟨d,.binOp .eql t x y c,ty,pos,af,g⟩=Jq true H (cu P tm H ⟨d,.binOp .eql t x y c,ty,pos,af,g⟩) (ev tm x) (ev tm y):=by
 unfold Jq;split
 ·rename_i hx hy
  have vx:(ev tm x).val?=some (.slice none 0 0):=by rw[hx];rfl
  have vy:(ev tm y).val?=some (.slice none 0 0):=by rw[hy];rfl
  have dx:bQ (ev tm x)=.slice none 0 0:=by unfold bQ;rw[vx]
  have dy:bQ (ev tm y)=.slice none 0 0:=by unfold bQ;rw[vy]
  unfold aA;have e1:((⟨d,.binOp .eql t x y c,ty,pos,af,g⟩:Oper).op.operands.toList.all λx=>(ev tm x).val?.isSome)=true:=by show([x,y].all λx=>(ev tm x).val?.isSome)=true;simp only[List.all_cons,List.all_nil,vx,vy];rfl
  rw[e1];have e2:aG P (execOp (λx=>bQ (ev tm x)) ⟨d,.binOp .eql t x y c,ty,pos,af,g⟩)=some (.value (.bool true)):=by
   show aG P (Sem.bind (Sem.bind (eqGuard .eql t x y (bQ (ev tm x)) (bQ (ev tm y))) λ_=>binOp .eql t (bQ (ev tm x)) (bQ (ev tm y))) λv=>Sem.pure (Next.value v))=_;rw[dx,dy,bz,bz];have hg:eqGuard .eql t x y (.slice none 0 0) (.slice none 0 0)=pure ():=rfl;rw[hg];show((aG P (Sem.bind (Op.equalIn 10000 t (.slice none 0 0) (.slice none 0 0)) λr=>Sem.pure (Value.bool r)))).bind _=_;have he:aG P (Op.equalIn 10000 t (.slice none 0 0) (.slice none 0 0))=some true:=by unfold Op.equalIn;rw[bM,cH h];rfl
   rw[bz,he];rfl
  rw[e2];rfl
 rfl
theorem Ot{P:Program}{t e:TypeId}(h1:dp P t=1)(h:P.underlying t=some (.slice e)):dp P t=1/\(∀(H:Hp)(alt:aj)(f:BF),cr H 1 .eql f (.one (.o .nilS)) (.one (.o .nilS)) alt=alt) /\
  (∀(H:Hp)(id g off n sz:Nat)(alt:aj)(f:BF),cr H 1 .eql f (.one (.o (.sl id g off n sz))) (.one (.o .nilS)) alt=.val (.one (.b false)) H) /\
  (∀(tm:PT AV)(H:Hp)(d:Option Tmp)(x y:Operand)(c ty:TypeId)(pos:String)(af:Array Edge)(g:Option (Nat×Bool)),aA P tm H ⟨d,.binOp .eql t x y c,ty,pos,af,g⟩=Jq true H (cu P tm H ⟨d,.binOp .eql t x y c,ty,pos,af,g⟩) (ev tm x) (ev tm y)) /\
  (∀(H:Hp)(alt:aj),Jq true H alt (.one (.o .nilS)) (.one (.o .nilS))=.val (.one (.b true)) H):=
 ⟨h1,λ_ _ _=>Th,λ_ _ _ _ _ _ _ _=>Lo,λ_ _ _ _ _ _ _ _ _ _=>LV h,λ_ _=>Xx⟩
theorem R1.eV{E:Env}{r:Option Nat}{x z:Code}{A:ag}{H:Hp}{Q:ax->ag->Hp->Prop}(I:ag->Hp->Prop)
  (h:∀K:ax->ag->Hp->Prop,Hd (∀B H,I B H->K .normal B H)->Hd (∀i B H,Q (.exit i) B H->K (.exit i) B H)->Hd (∀B H,Q .ret B H->K .ret B H)->R1 E r x A H K)
  (h2:∀B H,I B H->R1 E r z B H Q):R1 E r (.seq x z) A H Q:=
 R1.seq ((h (Thn I Q) (λ_ _ h=>h) (λ_ _ _ h=>h) (λ_ _ h=>h)).mono λe B H' hq=>by
  cases e with
  |normal=>exact h2 _ _ hq
  |exit i=>exact hq
  |ret=>exact hq)
theorem R1.aaJ{E:Env}{r:Option Nat}{x:Code}{A:ag}{H:Hp}{Q:ax->ag->Hp->Prop}(I:ag->Hp->Prop)
  (h:∀K:ax->ag->Hp->Prop,Hd (∀B H,I B H->K .normal B H)->Hd (∀i B H,Q (.exit i) B H->K (.exit i) B H)->Hd (∀B H,Q .ret B H->K .ret B H)->R1 E r x A H K)
  (h2:∀B H,I B H->Q .normal B H):R1 E r x A H Q:=
 (h (Thn I Q) (λ_ _ h=>h) (λ_ _ _ h=>h) (λ_ _ h=>h)).mono λe B H' hq=>by
  cases e with
  |normal=>exact h2 _ _ hq
  |exit i=>exact hq
  |ret=>exact hq
def oA(op:BinOp)(k:IntKind)(a b:Int):Int:=
 match op with
 |.and=>k.wrap ((BitVec.ofInt k.bits a &&& BitVec.ofInt k.bits b).toNat)
 |_=>k.wrap ((BitVec.ofInt k.bits a ^^^ BitVec.ofInt k.bits b).toNat)
def Dh(p:Int->Int->Prop)[∀a b,Decidable (p a b)](f:IntKind->Int->Int->AC)(H:Hp)(alt:aj)(x y:AV):aj:=
 match x,y with|.one (.i k a),.one (.i _ b)=>if p a b then .val (.one (f k a b)) H else alt|_,_=>alt
theorem Xd{p:Int->Int->Prop}[∀a b,Decidable (p a b)]{f:IntKind->Int->Int->AC}{H:Hp}{alt:aj}{k k':IntKind}{a b:Int}(h:p a b):Dh p f H alt (.one (.i k a)) (.one (.i k' b))=.val (.one (f k a b)) H:=ad h
section
variable{P:Program}{tm:PT AV}{H:Hp}{d:Option Tmp}{ty:TypeId}{pos:String}{af:Array Edge}{g:Option (Nat×Bool)}
def DP{t c:TypeId}{x y:Operand}{op:BinOp}(ho:op=.and\/op=.xor):aA P tm H ⟨d,.binOp op t x y c,ty,pos,af,g⟩=tI (λ_ _=>True) (λk a b=>.i k (oA op k a b)) H (cu P tm H ⟨d,.binOp op t x y c,ty,pos,af,g⟩) (ev tm x) (ev tm y):=by
 unfold tI;split
 ·rename_i k a k' b hx hy
  by_cases h:k=k'/\True
  ·rw[ad h];obtain⟨rfl,-⟩:=h;refine nW (v:=.int k (oA op k a b)) ?_ ?_ rfl
   ·show([x,y].all λx=>(ev tm x).val?.isSome)=true;simp only[List.all_cons,List.all_nil,hx,hy];rfl
   have e:binOp op t (.int k a) (.int k b)=pure (.int k (oA op k a b)):=by
    rcases ho with rfl|rfl
    ·show(if k≠k then _ else Op.intBits .and k a b)=_;rw[ab (by simp)];rfl
    show(if k≠k then _ else Op.intBits .xor k a b)=_;rw[ab (by simp)];rfl
   have eg:eqGuard op t x y (bQ (ev tm x)) (bQ (ev tm y))=pure ():=by rcases ho with rfl|rfl<;>rfl
   show aG P (Sem.bind (Sem.bind (eqGuard op t x y (bQ (ev tm x)) (bQ (ev tm y))) λ_=>binOp op t (bQ (ev tm x)) (bQ (ev tm y))) λv=>Sem.pure (Next.value v))=_;rw[eg,oZ hx,oZ hy];show aG P (Sem.bind (binOp op t (.int k a) (.int k b)) λv=>Sem.pure (Next.value v))=_;rw[e];rfl
  rw[ab h];rfl
 rfl
def shF(op:BinOp)(k:IntKind)(a b:Int):Int:=
 match op with
 |.shl=>k.wrap (a*2^(min b.toNat k.bits))
 |_=>a.fdiv (2^(min b.toNat k.bits))
def xQ{t c:TypeId}{x y:Operand}{op:BinOp}(ho:op=.shl\/op=.shr):aA P tm H ⟨d,.binOp op t x y c,ty,pos,af,g⟩=Dh (λ_ b=>0<=b) (λk a b=>.i k (shF op k a b)) H (cu P tm H ⟨d,.binOp op t x y c,ty,pos,af,g⟩) (ev tm x) (ev tm y):=by
 unfold Dh;split
 ·rename_i k a k' b hx hy
  by_cases h:0<=b
  ·rw[ad h];refine nW (v:=.int k (shF op k a b)) ?_ ?_ rfl
   ·show([x,y].all λx=>(ev tm x).val?.isSome)=true;simp only[List.all_cons,List.all_nil,hx,hy];rfl
   have e:binOp op t (.int k a) (.int k' b)=pure (.int k (shF op k a b)):=by
    rcases ho with rfl|rfl
    ·show Op.shift .shl k a k' b=_;unfold Op.shift;rw[ab aa];rfl
    show Op.shift .shr k a k' b=_;unfold Op.shift;rw[ab aa];rfl
   have eg:eqGuard op t x y (bQ (ev tm x)) (bQ (ev tm y))=pure ():=by rcases ho with rfl|rfl<;>rfl
   show aG P (Sem.bind (Sem.bind (eqGuard op t x y (bQ (ev tm x)) (bQ (ev tm y))) λ_=>binOp op t (bQ (ev tm x)) (bQ (ev tm y))) λv=>Sem.pure (Next.value v))=_;rw[eg,oZ hx,oZ hy];show aG P (Sem.bind (binOp op t (.int k a) (.int k' b)) λv=>Sem.pure (Next.value v))=_;rw[e];rfl
  rw[ab h];rfl
 rfl
end
theorem ZG{H:Hp}{kd:Nat}{k k':IntKind}{a b:Int}{alt:aj}:cr H kd .and (fL .and) (.one (.i k a)) (.one (.i k' b)) alt=alt:=by cases k<;>cases k'<;>rfl
theorem ZL{H:Hp}{kd:Nat}{k k':IntKind}{a b:Int}{alt:aj}:cr H kd .xor (fL .xor) (.one (.i k a)) (.one (.i k' b)) alt=alt:=by cases k<;>cases k'<;>rfl
theorem ZJ{H:Hp}{kd:Nat}{k k':IntKind}{a b:Int}{alt:aj}:cr H kd .shl (fL .shl) (.one (.i k a)) (.one (.i k' b)) alt=alt:=by cases k<;>cases k'<;>rfl
theorem ZK{H:Hp}{kd:Nat}{k k':IntKind}{a b:Int}{alt:aj}:cr H kd .shr (fL .shr) (.one (.i k a)) (.one (.i k' b)) alt=alt:=by cases k<;>cases k'<;>rfl
theorem Wt:(∀(P:Program)(tm:PT AV)(H:Hp)(d:Option Tmp)(ty:TypeId)(pos:String)(af:Array Edge)(g:Option (Nat×Bool))(t c:TypeId)(x y:Operand),aA P tm H ⟨d,.binOp .and t x y c,ty,pos,af,g⟩=tI (λ_ _=>True) (λk a b=>.i k (oA .and k a b)) H (cu P tm H ⟨d,.binOp .and t x y c,ty,pos,af,g⟩) (ev tm x) (ev tm y)) /\
  (∀(P:Program)(tm:PT AV)(H:Hp)(d:Option Tmp)(ty:TypeId)(pos:String)(af:Array Edge)(g:Option (Nat×Bool))(t c:TypeId)(x y:Operand),aA P tm H ⟨d,.binOp .xor t x y c,ty,pos,af,g⟩=tI (λ_ _=>True) (λk a b=>.i k (oA .xor k a b)) H (cu P tm H ⟨d,.binOp .xor t x y c,ty,pos,af,g⟩) (ev tm x) (ev tm y)) /\
  (∀(P:Program)(tm:PT AV)(H:Hp)(d:Option Tmp)(ty:TypeId)(pos:String)(af:Array Edge)(g:Option (Nat×Bool))(t c:TypeId)(x y:Operand),aA P tm H ⟨d,.binOp .shl t x y c,ty,pos,af,g⟩=Dh (λ_ b=>0<=b) (λk a b=>.i k (shF .shl k a b)) H (cu P tm H ⟨d,.binOp .shl t x y c,ty,pos,af,g⟩) (ev tm x) (ev tm y)) /\
  (∀(P:Program)(tm:PT AV)(H:Hp)(d:Option Tmp)(ty:TypeId)(pos:String)(af:Array Edge)(g:Option (Nat×Bool))(t c:TypeId)(x y:Operand),aA P tm H ⟨d,.binOp .shr t x y c,ty,pos,af,g⟩=Dh (λ_ b=>0<=b) (λk a b=>.i k (shF .shr k a b)) H (cu P tm H ⟨d,.binOp .shr t x y c,ty,pos,af,g⟩) (ev tm x) (ev tm y)) /\
  (∀(H:Hp)(kd:Nat)(k k':IntKind)(a b:Int)(alt:aj),cr H kd .and (fL .and) (.one (.i k a)) (.one (.i k' b)) alt=alt)/\(∀(H:Hp)(kd:Nat)(k k':IntKind)(a b:Int)(alt:aj),cr H kd .xor (fL .xor) (.one (.i k a)) (.one (.i k' b)) alt=alt) /\
  (∀(H:Hp)(kd:Nat)(k k':IntKind)(a b:Int)(alt:aj),cr H kd .shl (fL .shl) (.one (.i k a)) (.one (.i k' b)) alt=alt)/\(∀(H:Hp)(kd:Nat)(k k':IntKind)(a b:Int)(alt:aj),cr H kd .shr (fL .shr) (.one (.i k a)) (.one (.i k' b)) alt=alt) /\
  (∀(H:Hp)(alt:aj)(k:IntKind)(a b:Int),tI (λ_ _=>True) (λk a b=>.i k (oA .and k a b)) H alt (.one (.i k a)) (.one (.i k b))=.val (.one (.i k (oA .and k a b))) H)/\(∀(H:Hp)(alt:aj)(k:IntKind)(a b:Int),tI (λ_ _=>True) (λk a b=>.i k (oA .xor k a b)) H alt (.one (.i k a)) (.one (.i k b))=.val (.one (.i k (oA .xor k a b))) H):=
 ⟨λ_ _ _ _ _ _ _ _ _ _ _ _=>DP (.inl rfl),λ_ _ _ _ _ _ _ _ _ _ _ _=>DP (.inr rfl),λ_ _ _ _ _ _ _ _ _ _ _ _=>xQ (.inl rfl),λ_ _ _ _ _ _ _ _ _ _ _ _=>xQ (.inr rfl),
  λ_ _ _ _ _ _ _=>ZG,λ_ _ _ _ _ _ _=>ZL,λ_ _ _ _ _ _ _=>ZJ,λ_ _ _ _ _ _ _=>ZK,λ_ _ _ _ _=>Ft trivial,λ_ _ _ _ _=>Ft trivial⟩
theorem shI{op:BinOp}{b:Int}(h:0<=b):∀(H:Hp)(alt:aj)(k k':IntKind)(a:Int),Dh (λ_ b=>0<=b) (λk a b=>.i k (shF op k a b)) H alt (.one (.i k a)) (.one (.i k' b))=.val (.one (.i k (shF op k a b))) H:=λ_ _ _ _ _=>Xd h
theorem FO{n:Nat}(x:Nat):BitVec.ofInt n (x:Int)=BitVec.ofNat n x:=by apply BitVec.eq_of_toInt_eq;simp
theorem KI(n:Int):IntKind.u64.wrap n=n%18446744073709551616:=by unfold IntKind.wrap;have h1:IntKind.signed .u64=false:=rfl;simp only[h1,Bool.false_and,Bool.false_eq_true,if_false];rfl
theorem og{x:Nat}(h:x<18446744073709551616):IntKind.u64.wrap (x:Int)=(x:Int):=by rw[KI];omega
theorem Yw{x y:Nat}(hx:x<18446744073709551616)(hy:y<18446744073709551616):oA .and .u64 (x:Int) (y:Int)=((x &&& y:Nat):Int):=by
 show IntKind.u64.wrap ((BitVec.ofInt 64 (x:Int) &&& BitVec.ofInt 64 (y:Int)).toNat)=_;have e:(BitVec.ofInt 64 (x:Int) &&& BitVec.ofInt 64 (y:Int)).toNat=x &&& y:=by rw[FO,FO,BitVec.toNat_and,zo,zo,ph hx,ph hy]
 rw[e];exact og (vY Nat.and_le_left hx)
theorem Ev{x y:Nat}(hx:x<18446744073709551616)(hy:y<18446744073709551616):oA .xor .u64 (x:Int) (y:Int)=((x ^^^ y:Nat):Int):=by
 show IntKind.u64.wrap ((BitVec.ofInt 64 (x:Int) ^^^ BitVec.ofInt 64 (y:Int)).toNat)=_;have e:(BitVec.ofInt 64 (x:Int) ^^^ BitVec.ofInt 64 (y:Int)).toNat=x ^^^ y:=by rw[FO,FO,BitVec.toNat_xor,zo,zo,ph hx,ph hy]
 rw[e];exact og (vZ (n:=64) hx hy)
theorem Eh{x k:Nat}(hk:k<=64):shF .shl .u64 (x:Int) (k:Int)=((x*2^k%18446744073709551616:Nat):Int):=by show IntKind.u64.wrap ((x:Int)*2^(min (k:Int).toNat 64))=_;rw[rR,wg hk,KI];rw[Int.natCast_emod,Int.natCast_mul,Int.natCast_pow];rfl
theorem Bx{x k:Nat}(hk:k<=64):shF .shr .u64 (x:Int) (k:Int)=((x/2^k:Nat):Int):=by show((x:Int)).fdiv (2^(min (k:Int).toNat 64))=_;rw[rR,wg hk];have e:(2:Int)^k=((2^k:Nat):Int):=(Int.natCast_pow 2 k).symm;rw[e,Int.fdiv_eq_ediv_of_nonneg _ (Int.natCast_nonneg _),<-Int.natCast_ediv]
def RA(E:Env)(r:Option Nat)(c:Code)(A:ag)(H:Hp)(Q:ax->ag->Hp->Prop):Prop:=∃n l,(codeF E c).run (eval E n) r A H=.ok l/\l≠[]/\∀x∈l,Q x.1 x.2.1 x.2.2
def OA(E:Env)(l:List OF)(A:ag)(H:Hp)(Q:ag->Hp->Prop):Prop:=∃n o,fA E (eval E n) l A H=.ok o/\o≠[]/\∀x∈o,Q x.1 x.2
theorem kQ{α β:Type}{f:Nat->α->R β}(hf:∀{n k:Nat} (x:α),n<=k->RLe (f n x) (f k x)){Q:β->Prop}:∀l:List α,l≠[]->(∀x∈l,∃n o,f n x=.ok o/\o≠[]/\∀y∈o,Q y)->∃n o,(∀k,n<=k->dg (f k) l=.ok o)/\o≠[]/\∀y∈o,Q y
 |[],h,_=>absurd rfl h
 |[x],_,h=>by obtain⟨n,o,h1,h2,h3⟩:=h x (List.mem_singleton.2 rfl);exact⟨n,o,λk hk=>hf x hk _ h1,h2,h3⟩
 |x::y::l,_,h=>by obtain⟨n,o,h1,h2,h3⟩:=h x (bh ..);obtain⟨n',o',W5,h2',h3'⟩:=kQ hf (y::l) (by simp) λz hz=>h z (aU _ hz);refine⟨max n n',o++o',λk hk=>?_,by simp[h2],λz hz=>(List.mem_append.1 hz).elim (h3 z) (h3' z)⟩;have a1:=hf x (show n<=k by omega) _ h1;have a2:=W5 k aa;show zC (f k x) (dg (f k) (y::l))=_;rw[a1,a2];rfl
section
variable{E:Env}{r:Option Nat}{A:ag}{H:Hp}{Q:ax->ag->Hp->Prop}
def RA.of{c:Code}(h:R1 E r c A H Q):RA E r c A H Q:=by obtain⟨n,e,A1,H1,h1,h2⟩:=h;exact⟨n,_,h1,by simp,λx hx=>by rw[List.mem_singleton.1 hx];exact h2⟩
def RA.mono{c:Code}{Q':ax->ag->Hp->Prop}(h:RA E r c A H Q)(hq:∀e A' H',Q e A' H'->Q' e A' H'):RA E r c A H Q':=
 let ⟨n,l,h1,h2,h3⟩:=h;⟨n,l,h1,h2,λx hx=>hq _ _ _ (h3 x hx)⟩
def OA.mono{l:List OF}{Q Q':ag->Hp->Prop}(h:OA E l A H Q)(hq:∀A' H',Q A' H'->Q' A' H'):OA E l A H Q':=
 let ⟨n,o,h1,h2,h3⟩:=h;⟨n,o,h1,h2,λx hx=>hq _ _ (h3 x hx)⟩
def OA.of{l:List OF}{Q:ag->Hp->Prop}(h:O1 E l A H Q):OA E l A H Q:=by obtain⟨n,A1,H1,h1,h2⟩:=h;exact⟨n,_,h1,by simp,λx hx=>by rw[List.mem_singleton.1 hx];exact h2⟩
def RA.skip(h:Q .normal A H):RA E r .skip A H Q:=RA.of (R1.skip h)
def RA.exit{id:Nat}(h:Q (.exit id) A H):RA E r (.exit id) A H Q:=RA.of (R1.exit h)
def RA.ret(h:Q .ret A H):RA E r .ret A H Q:=RA.of (R1.ret h)
def RA.scope{c:Code}(h:RA E r c A H Q):RA E r (.scope c) A H Q:=h
def RA.seq{x y:Code}(h:RA E r x A H (Thn (λA H=>RA E r y A H Q) Q)):RA E r (.seq x y) A H Q:=by
 obtain⟨n,l,h1,h2,h3⟩:=h;have key:=kQ (f:=λk z=>wZ (codeF E y) (eval E k) r z) (λ{n k}z hk=>Ff (fQ (eL E hk) y r _ _) (λ_=>RLe.refl _) (RLe.refl _)) (Q:=λz=>Q z.1 z.2.1 z.2.2) l h2 λz hz=>by
  have hq:=h3 z hz;obtain⟨e,A1,H1⟩:=z;cases e with
  |normal=>exact hq
  |exit i=>exact⟨0,_,rfl,by simp,λy hy=>by rw[List.mem_singleton.1 hy];exact hq⟩
  |ret=>exact⟨0,_,rfl,by simp,λy hy=>by rw[List.mem_singleton.1 hy];exact hq⟩
 obtain⟨n',o,k1,k2,k3⟩:=key;refine⟨max n n',o,?_,k2,k3⟩;have a1:=fQ (eL E (rO n n')) x r A H _ h1;show((codeF E x).run (eval E (max n n')) r A H).bind (wZ (codeF E y) (eval E (max n n')) r)=_;rw[a1];exact k1 _ (pd n n')
def RA.cond{c:Operand}{x y:Code}{b:Bool}(hc:ev A.tm c=.one (.b b))(h:RA E r (if b=true then x else y) A H Q):RA E r (.cond c x y) A H Q:=by
 obtain⟨n,l,h1,h2⟩:=h;refine⟨n,l,?_,h2⟩;show fw (ev A.tm c) (.bad "cond") (λb=>Eng.ifE b ((codeF E x).run (eval E n) r A H) ((codeF E y).run (eval E n) r A H))=_
 rw[hc];cases b with
 |true=>exact h1
 |false=>exact h1
def La(id:Nat)(e:ax)(A1:ag)(H1:Hp){Q:ax->ag->Hp->Prop}(h:InB id Q e A1 H1):∃e2,mF id (e,A1,H1)=.ok [(e2,A1,H1)]/\Q e2 A1 H1:=by
 cases e with
 |normal=>exact⟨.normal,rfl,h⟩
 |ret=>exact⟨.ret,rfl,h⟩
 |exit i=>
  have h':if i=id then Q .normal A1 H1 else Q (.exit i) A1 H1:=h;by_cases hi:i=id
  ·rw[ad hi]at h';refine⟨.normal,?_,h'⟩;show Eng.ifE (Nat.beq i id) (R.ok [((.normal:ax),A1,H1)]) (R.ok [(.exit i,A1,H1)])=_;rw[hi,cN];rfl
  rw[ab hi]at h';refine⟨.exit i,?_,h'⟩;show Eng.ifE (Nat.beq i id) (R.ok [((.normal:ax),A1,H1)]) (R.ok [(.exit i,A1,H1)])=_;have:Nat.beq i id=false:=by
   cases hb:Nat.beq i id with
   |false=>rfl
   |true=>exact absurd (aN hb) hi
  rw[this];rfl
def RA.round{c:Code}(h:RA E r c A H (Thn (λA H=>RA E r (.loop c) A H Q) Q)):RA E r (.loop c) A H Q:=by
 obtain⟨n,l,h1,h2,h3⟩:=h;have key:=kQ (f:=λk z=>AY (eval E k) r c z) (λ{n k}z hk=>Ff ((eL E hk).code _ _ _ _) (λ_=>RLe.refl _) (RLe.refl _)) (Q:=λz=>Q z.1 z.2.1 z.2.2) l h2 λz hz=>by
  have hq:=h3 z hz;obtain⟨e,A1,H1⟩:=z;cases e with
  |normal=>obtain⟨k,o,a,b⟩:=hq;exact⟨k+1,o,a,b⟩
  |exit i=>exact⟨0,_,rfl,by simp,λy hy=>by rw[List.mem_singleton.1 hy];exact hq⟩
  |ret=>exact⟨0,_,rfl,by simp,λy hy=>by rw[List.mem_singleton.1 hy];exact hq⟩
 obtain⟨n',o,k1,k2,k3⟩:=key;refine⟨max n n',o,?_,k2,k3⟩;have a1:=fQ (eL E (rO n n')) c r A H _ h1;show((codeF E c).run (eval E (max n n')) r A H).bind (AY (eval E (max n n')) r c)=_;rw[a1];exact k1 _ (pd n n')
def RA.loop{c:Code}(I:Nat->ag->Hp->Prop)(hI:∀k A H,I k A H->RA E r c A H (Thn (λA' H'=>∃k',k'<k/\I k' A' H') Q)):∀(k:Nat){A:ag}{H:Hp},I k A H->RA E r (.loop c) A H Q:=by
 intro k;induction k using Nat.strongRecOn with
 |ind k ih=>
  intro A H h;refine RA.round ((hI k A H h).mono λe A' H' hq=>?_);cases e with
  |normal=>obtain⟨k',hk,h'⟩:=hq;exact ih k' hk h'
  |exit i=>exact hq
  |ret=>exact hq
def RA.region{id:Nat}{ops:Array Oper}(h:OA E (tQ E.P ops) A H λA H=>Q .normal A H):RA E r (.region id ops false) A H Q:=by obtain⟨n,o,h1,h2,h3⟩:=h;obtain⟨n',o',k1,k2,k3⟩:=kQ (f:=λ_ z=>gz z) (λ_ _=>RLe.refl _) (Q:=λz=>Q z.1 z.2.1 z.2.2) o h2 λz hz=>⟨0,_,rfl,by simp,λy hy=>by rw[List.mem_singleton.1 hy];exact h3 z hz⟩;refine⟨n,o',?_,k2,k3⟩;show(fA E (eval E n) (tQ E.P ops) A H).bind gz=_;rw[h1];exact k1 n' (ai _)
def OA.sX{g:Option (Option Tmp×Bool)}{d:Option Tmp}{f:SF}{o:Oper}{l:List OF}{Q:ag->Hp->Prop}{vs:List (AV×Hp)}(hg:∀y n:R (ag×Hp),cy A.tm g y n=y)(hd:bc d A.nt=true)
  (hr:f.run A.tm H=.sX vs) (I1:vs≠[]) (h:∀x∈vs,OA E l (cE A d x.1) x.2 Q):OA E (⟨g,d,f,o⟩::l) A H Q:=by
 obtain⟨n,o',k1,k2,k3⟩:=kQ (f:=λk x=>iJ A d x.1 x.2 (fA E (eval E k) l)) (λ{n k}x hk=>mu λa h=>qa (eL E hk) l a h) (Q:=λz=>Q z.1 z.2) vs I1 λx hx=>by obtain⟨n,o,a,b⟩:=h x hx;exact⟨n,o,by rw[kS hd];exact a,b⟩
 refine⟨n,o',?_,k2,k3⟩;show cy A.tm g (pD E (eval E n) A d H (fA E (eval E n) l) (f.run A.tm H)) _=_;rw[hg,hr];exact k1 n (ai _)
def OA.val{g:Option (Option Tmp×Bool)}{d:Option Tmp}{f:SF}{o:Oper}{l:List OF}{Q:ag->Hp->Prop}{v:AV}{H':Hp}(hg:∀y n:R (ag×Hp),cy A.tm g y n=y)(hd:bc d A.nt=true)
  (hr:f.run A.tm H=.val v H') (h:OA E l (cE A d v) H' Q):OA E (⟨g,d,f,o⟩::l) A H Q:=by
 obtain⟨n,o',h1,h2⟩:=h;refine⟨n,o',?_,h2⟩;show cy A.tm g (pD E (eval E n) A d H (fA E (eval E n) l) (f.run A.tm H)) _=_;rw[hg,hr];show iJ A d v H' (fA E (eval E n) l)=_;rw[kS hd];exact h1
end
structure aaw{K:Type}[DecidableEq K](P:Program)(kt:TypeId)(kv:K->AV):Prop where
 eq:∀a b,ky P kt (kv a) (kv b)=some (decide (a=b))
 ok:∀e a,iH P e kt (kv a)=some ()
 same:∀a,sameKey P kt (kv a) (kv a)=true
 nt:∀a,(kv a).cd=true
theorem Fv{P:Program}{kt:TypeId}(h:bO P kt=1):aaw P kt λn:Int=>.one (.i .i64 n)where
 eq:=λa b=>by
  unfold ky;rw[h];show Eng.ifE (sameKind .i64 .i64) (some (iEq a b)) none=_;rw[oE];by_cases hh:a=b
  ·subst hh;simp;rfl
  rw[aV hh,aW hh];rfl
 ok:=λ_ s=>by unfold iH;rw[h];rfl
 same:=λa=>by unfold sameKey;rw[h];show both (sameKind .i64 .i64) (iEq a a)=true;rw[oE,fl];rfl
 nt:=λ_=>rfl
section
variable{K:Type}
def eX(kv:K->AV):Nat->List (K×AC)->List bX
 |_,[]=>[]
 |n,(k,v)::l=>⟨kv k,.one v,n⟩::eX kv (n+1) l
def jS(kv:K->AV)(l:List (K×AC)):aX:=.oth (.map (eX kv 0 l) l.length)
def HW(kv:K->AV):∀(n:Nat)(l:List (K×AC))(k:K)(v:AC),eX kv n (l++[(k,v)])=eX kv n l++[⟨kv k,.one v,n+l.length⟩]
 |n,[],_,_=>rfl
 |n,(t,w)::l,k,v=>by show _::eX kv (n+1) (l++[(k,v)])=_::(eX kv (n+1) l++_);rw[HW kv (n+1) l k v];have:n+1+l.length=n+(l.length+1):=aa;rw[this];rfl
def yq(kv:K->AV):∀(n:Nat)(l:List (K×AC))(i:Nat),(eX kv n l)[i]?=(l[i]?).map λp=>⟨kv p.1,.one p.2,n+i⟩
 |_,[],i=>by simp[eX]
 |n,(t,w)::l,0=>rfl
 |n,(t,w)::l,i+1=>by show(eX kv (n+1) l)[i]?=_;rw[yq kv (n+1) l i,List.getElem?_cons_succ];have:n+1+i=n+(i+1):=aa;rw[this]
variable[DecidableEq K]
def atG(l:List (K×AC))(k:K):Option AC:=
 match l with
 |[]=>none
 |(t,v)::l=>if t=k then some v else atG l k
def tV(l:List (K×AC))(k:K)(v:AC):List (K×AC):=
 match l with
 |[]=>[(k,v)]
 |(t,w)::l=>if t=k then(k,v)::l else(t,w)::tV l k v
variable{P:Program}{kt:TypeId}{kv:K->AV}(hk:aaw P kt kv)
include hk
theorem lookup_nil{H:Hp}{z:AV}{k:K}{ok:Bool}:bI P H kt z (.one (.o .nilM)) (kv k) ok=bF H ok z false:=by unfold bI;simp only[hk.ok];rfl
theorem DU(k:K)(x:AC):∀(n:Nat)(l:List (K×AC)),rm P kt (kv k) (.one x) (eX kv n l)=some ((atG l k).isSome,if(atG l k).isSome=true then eX kv n (tV l k x)else eX kv n l)
 |n,[]=>rfl
 |n,(t,v)::l=>by
  have ih:=DU k x (n+1) l;have e0:rm P kt (kv k) (.one x) (eX kv n ((t,v)::l))=aB (ky P kt (kv k) (kv t)) none λb=>Eng.ifE b (Eng.ifE (sameKey P kt (kv t) (kv k)) (some (true,⟨kv k,.one x,n⟩::eX kv (n+1) l)) none) (aB (rm P kt (kv k) (.one x) (eX kv (n+1) l)) none λr=>some (r.1,⟨kv t,.one v,n⟩::r.2)):=rfl;rw[e0,hk.eq];by_cases X3:k=t
  ·subst X3;show Eng.ifE (decide (k=k)) _ _=_;rw[aL rfl];show Eng.ifE (sameKey P kt (kv k) (kv k)) _ _=_;rw[hk.same];have e1:atG ((k,v)::l) k=some v:=ad rfl;have e2:tV ((k,v)::l) k x=(k,x)::l:=ad rfl;rw[e1,e2];rfl
  show Eng.ifE (decide (k=t)) _ _=_;rw[aV X3];show aB (rm P kt (kv k) (.one x) (eX kv (n+1) l)) none _=_;rw[ih];have e1:atG ((t,v)::l) k=atG l k:=ab λh=>X3 h.symm;have e2:tV ((t,v)::l) k x=(t,v)::tV l k x:=ab λh=>X3 h.symm;rw[e1,e2];cases hs:(atG l k).isSome<;>rfl
omit hk in
theorem Kz{l:List (K×AC)}{k:K}{x:AC}(h:atG l k=none):tV l k x=l++[(k,x)]:=by
 induction l with
 |nil=>rfl
 |cons p l ih=>
  obtain⟨t,w⟩:=p;have I1:¬t=k:=λe=>by have:atG ((t,w)::l) k=some w:=ad e;rw[this]at h;cases h
  have h1:atG l k=none:=by have:atG ((t,w)::l) k=atG l k:=ab I1;rw[this]at h;exact h
  have e2:tV ((t,w)::l) k x=(t,w)::tV l k x:=ab I1;rw[e2,ih h1];rfl
omit hk in
theorem Kw{k:K}{x:AC}:∀{l:List (K×AC)},(tV l k x).length=if(atG l k).isSome=true then l.length else l.length+1
 |[]=>rfl
 |(t,w)::l=>by
  by_cases ht:t=k
  ·have e1:atG ((t,w)::l) k=some w:=ad ht;have e2:tV ((t,w)::l) k x=(k,x)::l:=ad ht;rw[e1,e2];rfl
  have e1:atG ((t,w)::l) k=atG l k:=ab ht;have e2:tV ((t,w)::l) k x=(t,w)::tV l k x:=ab ht;rw[e1,e2,List.length_cons,Kw];split<;>rfl
theorem KA{H:Hp}{id:Nat}{k:K}{l:List (K×AC)}{x:AC}(hg:H.get id=some (jS kv l)):
  bD P H kt (.one (.o (.mp id))) (kv k) (.one x)=.val aP (H.mod id (jS kv (tV l k x))):=by
 unfold bD;have R2:H.get id=some (.oth (.map (eX kv 0 l) l.length)):=hg;simp only[R2,hk.ok];show aK (both (kv k).cd true) _ (nd (rm P kt (kv k) (.one x) (eX kv 0 l)) _ _)=_;rw[hk.nt,DU hk k x 0 l];cases hs:atG l k with
 |some v=>show aj.val aP (H.mod id (.oth (.map (eX kv 0 (tV l k x)) l.length)))=_;unfold jS;rw[Kw,hs];rfl
 |none=>show aj.val aP (H.mod id (.oth (.map (eX kv 0 l++[⟨kv k,.one x,l.length⟩]) (l.length+1))))=_;unfold jS;rw[Kz hs,HW,bA,Nat.zero_add];rfl
end
section
variable{K:Type}{kv:K->AV}{H:Hp}{m r:Nat}{l:List (K×AC)}{seen:List Nat}
def pA(m n:Nat)(seen:List Nat):aX:=.oth (.iter (some m) n seen n)
def XY(hg:H.get m=some (jS kv l)):jv H (.one (.o (.mp m)))=.val (.one (.o (.it H.nx))) (H.new (pA m l.length [])):=by unfold jv;have R2:H.get m=some (.oth (.map (eX kv 0 l) l.length)):=hg;simp only[R2];rfl
def QU:jv H (.one (.o .nilM))=.val (.one (.o (.it H.nx))) (H.new (.oth (.iter none 0 [] 0))):=rfl
def Ut(hr:H.get r=some (.oth (.iter none 0 [] 0))):fT H (.one (.o (.it r)))=.val pC H:=by unfold fT;simp only[hr]
def wD{e:bX}(he:e∈eX kv 0 l):∃i p,l[i]?=some p/\e=⟨kv p.1,.one p.2,i⟩:=by
 obtain⟨i,hi⟩:=List.mem_iff_getElem?.1 he;rw[yq]at hi;cases hp:l[i]? with
 |none=>rw[hp]at hi;cases hi
 |some p=>rw[hp]at hi;refine⟨i,p,hp,?_⟩;have:=dX hi;rw[<-this,Nat.zero_add]
def QA(hr:H.get r=some (pA m l.length seen))(hg:H.get m=some (jS kv l))(hs:∀i,i<l.length->i∈seen):fT H (.one (.o (.it r)))=.val pC H:=by
 unfold fT;have T3:H.get r=some (.oth (.iter (some m) l.length seen l.length)):=hr;have R2:H.get m=some (.oth (.map (eX kv 0 l) l.length)):=hg;simp only[T3,R2];have h1:(!(!seen.isEmpty&&!(eX kv 0 l).isEmpty&&(eX kv 0 l).all (λe=>Nat.ble l.length e.born)))=true:=by
  cases l with
  |nil=>simp[eX]
  |cons p l=>have:Nat.ble (l.length+1) 0=false:=rfl;simp[eX,this]
 rw[h1];have h2:(eX kv 0 l).filter (λe=>!seen.contains e.born)=[]:=by rw[GA];intro e he;obtain⟨i,p,hp,rfl⟩:=wD he;have:i∈seen:=hs i (List.getElem?_eq_some_iff.1 hp).1;simp[this]
 rw[h2];rfl
def QB(hr:H.get r=some (pA m l.length seen))(hg:H.get m=some (jS kv l))(hs:∃i,i<l.length/\i∉seen):
  ∃vs,fT H (.one (.o (.it r)))=.sX vs/\vs≠[]/\∀x∈vs,∃i p,l[i]?=some p/\i∉seen/\x=(rI (kv p.1) (.one p.2),H.mod r (pA m l.length (seen++[i]))):=by
 obtain⟨i0,T5,hs0⟩:=hs;have T3:H.get r=some (.oth (.iter (some m) l.length seen l.length)):=hr;have R2:H.get m=some (.oth (.map (eX kv 0 l) l.length)):=hg;have h1:(!(!seen.isEmpty&&!(eX kv 0 l).isEmpty&&(eX kv 0 l).all (λe=>Nat.ble l.length e.born)))=true:=by
  cases l with
  |nil=>simp[eX]
  |cons p l=>have:Nat.ble (l.length+1) 0=false:=rfl;simp[eX,this]
 have I0:∀e,e∈(eX kv 0 l).filter (λe=>!seen.contains e.born)->∃i p,l[i]?=some p/\i∉seen/\e=⟨kv p.1,.one p.2,i⟩:=λe he=>by obtain⟨h2,h3⟩:=List.mem_filter.1 he;obtain⟨i,p,hp,rfl⟩:=wD h2;exact⟨i,p,hp,by simpa using h3,rfl⟩
 cases hf:(eX kv 0 l).filter (λe=>!seen.contains e.born)with
 |nil=>exfalso;rw[GA]at hf;have h2:=yq kv 0 l i0;rw[aO T5,Nat.zero_add]at h2;have:=hf _ (List.mem_iff_getElem?.2 ⟨i0,h2⟩);simp[hs0]at this
 |cons e es=>
  rw[hf]at I0;refine⟨(e::es).map λe=>(rI e.key e.val,H.mod r (pA m l.length (seen++[e.born]))),?_,by simp,λx hx=>?_⟩
  ·unfold fT;simp only[T3,R2];rw[h1,hf];have h4:((e::es).all λe=>Nat.blt e.born l.length)=true:=by rw[rN];intro e' he';obtain⟨i,p,hp,_,rfl⟩:=I0 e' he';exact bG (List.getElem?_eq_some_iff.1 hp).1
   show aK true _ (aK ((e::es).all λe=>Nat.blt e.born l.length) _ _)=_;rw[h4];rfl
  obtain⟨e',he',rfl⟩:=List.mem_map.1 hx;obtain⟨i,p,hp,hn,rfl⟩:=I0 e' he';exact⟨i,p,hp,hn,rfl⟩
def WJ{i:Nat}{p:K×AC}(hr:H.get r=some (pA m l.length (seen++[i])))(hg:H.get m=some (jS kv l))(hp:l[i]?=some p):ju H (.one (.o (.it r)))=.val (UI (kv p.1) (.one p.2)) H:=by
 unfold ju;have T3:H.get r=some (.oth (.iter (some m) l.length (seen++[i]) l.length)):=hr;have R2:H.get m=some (.oth (.map (eX kv 0 l) l.length)):=hg;simp only[T3,R2,List.getLast?_concat,cN];have hf:(eX kv 0 l).find? (λe=>Nat.beq e.born i)=some ⟨kv p.1,.one p.2,i⟩:=by
  cases hx:(eX kv 0 l).find? (λe=>Nat.beq e.born i)with
  |none=>exfalso;have h2:=yq kv 0 l i;rw[hp,Nat.zero_add]at h2;have:=List.find?_eq_none.1 hx _ (List.mem_iff_getElem?.2 ⟨i,h2⟩);simp at this
  |some e=>obtain⟨j,q,hq,rfl⟩:=wD (List.mem_of_find?_eq_some hx);have hb:=List.find?_some hx;have:j=i:=aN hb;subst this;rw[hp]at hq;cases hq;rfl
 show aK true _ _=_;simp only[aK,hf]
end
section
variable{st:Bool}{E:Env}{A:ag}{H:Hp}{next:ag->Hp->Prop}{d:Option Tmp}{ty:TypeId}{pos:String}{af:Array Edge}{gd:Option (Nat×Bool)}
def RL{x:Operand}:SK st E ⟨d,.entry x,ty,pos,af,gd⟩ A H next=(True/\vN next A d (ju H (ev A.tm x))):=rfl
def RO{t:TypeId}{x:Operand}:SK st E ⟨d,.range t x,ty,pos,af,gd⟩ A H next=(True/\jK (jl E.P t) λ_=>vN next A d (jv H (ev A.tm x))):=by show(True/\fM _ ((ndF (jl E.P t) _ _).run A.tm H))=_;rw[du];rfl
end
theorem OA.nil{E:Env}{A:ag}{H:Hp}{Q:ag->Hp->Prop}(h:Q A H):OA E [] A H Q:=OA.of (O1.nil h)
section
variable{P:Program}{H:Hp}{t e:TypeId}{sz by_ n k:Nat}{z:Value}{x:AV}{c:List AC}
def Hn{s:AV}(he:bV P t=some (e,sz))(hb:dA P e=some by_)(hz:ba P e=some z)(S2:(ofValue z).cells.length=sz)(M1:sz≠0)(hs:mB H sz x=some (k,c)):bN P H t s x=eP H e sz by_ k c s:=by
 have e1:Nat.beq sz 0=false:=by
  cases h:Nat.beq sz 0 with
  |false=>rfl
  |true=>exact absurd (aN h) M1
 have e3:both (!Nat.beq sz 0) (Nat.beq (bU (ofValue z).cells) sz)=true:=by rw[e1,bP,S2,cN];rfl
 unfold bN;simp only[he,hb,hz,nd,e3,aK,hs]
def KR{id gen lo at_:Nat}{cells:List AC}(he:bV P t=some (e,sz))(hb:dA P e=some by_)(hz:ba P e=some z)(S2:(ofValue z).cells.length=sz)(M1:sz≠0)
  (hg:H.get id=some (.arr cells e lo gen)) (Y1:lo<=gen) (Q0:at_*sz<=cells.length) (hs:mB H sz x=some (k,c)) (hk:k≠0) (h1:at_+k<=140737488355328) (h2:(at_+k)*by_<=140737488355328):
  ∃lo',lo'<=gen+1/\bN P H t (.one (.o (.sl id gen 0 at_ sz))) x=.val (.one (.o (.sl id (gen+1) 0 (at_+k) sz))) (H.mod id (.arr (cells.take (at_*sz)++c) e lo' (gen+1))):=by
 have e2:Nat.beq k 0=false:=by
  cases h:Nat.beq k 0 with
  |false=>rfl
  |true=>exact absurd (aN h) hk
 have g5:Nat.ble (Nat.add 0 (Nat.mul at_ sz)) (bU cells)=true:=by rw[bP];exact bG (by show 0+at_*sz<=cells.length;omega)
 have g6:Nat.ble (Nat.add at_ k) 140737488355328=true:=bG h1;have g7:Nat.ble (Nat.mul (Nat.add at_ k) by_) 140737488355328=true:=bG h2;have key:bN P H t (.one (.o (.sl id gen 0 at_ sz))) x=Eng.ifE (Nat.beq (Nat.mul at_ sz) (bU cells)) (.val (.one (.o (.sl id (gen+1) 0 (at_+k) sz))) (H.mod id (.arr (pE cells c) e lo (gen+1)))) (.val (.one (.o (.sl id (gen+1) 0 (at_+k) sz))) (H.mod id (.arr (pE (cut cells 0 (Nat.mul at_ sz)) c) e (gen+1) (gen+1)))):=by
  rw[Hn he hb hz S2 M1 hs];show pQ (H.get id) _ _=_;rw[hg];show aK (both (Nat.beq sz sz) (both (Nat.beq e e) (both (Nat.ble lo gen) (both (Nat.ble gen gen) (both (Nat.ble (Nat.add 0 (Nat.mul at_ sz)) (bU cells)) (both (Nat.ble (Nat.add at_ k) 140737488355328) (Nat.ble (Nat.mul (Nat.add at_ k) by_) 140737488355328))))))) _
   (Eng.ifE (Nat.beq k 0) _ (Eng.ifE (both (Nat.beq gen gen) (both (Nat.beq 0 0) (Nat.beq (Nat.mul at_ sz) (bU cells)))) _ _))=_
  rw[cN,cN,cN,bG Y1,bG (ai gen),g5,g6,g7,e2];rfl
 rw[key];cases hf:Nat.beq (Nat.mul at_ sz) (bU cells)with
 |true=>
  have hl:at_*sz=cells.length:=by have:=aN hf;rw[bP]at this;exact this
  refine⟨lo,tZ Y1,?_⟩;rw[hl,pn,jt];rfl
 |false=>refine⟨gen+1,ai _,?_⟩;rw[jt,jt,mG,List.drop_zero];rfl
end
def tn(H:Hp)(id:Nat)(look:Int->Option AV):Prop:=(∃es c k,H.get id=some (.oth (.map es c))/\pB es=some k/\∀n,eI n k=look n)\/∃k,H.get id=some (.oth (.fmap k))/\∀n,eI n k=look n
structure MH(H:Hp)(nt:Nat)(df:List Nat)(P:ag->Hp->Prop)(A':ag)(H':Hp):Prop where
 ntE:A'.nt=nt
 dfr:A'.dfr=df
 slot:∀t v,t<nt->(∀A2 H2,P A2 H2->slot A2.tm t=v)->slot A'.tm t=v
 old:∀id x,id<H.nx->(∀A2 H2,P A2 H2->H.nx<=H2.nx/\H2.get id=x)->H'.get id=x
 map:∀id look,id<H.nx->(∀A2 H2,P A2 H2->H.nx<=H2.nx/\∃es c k,H2.get id=some (.oth (.map es c))/\pB es=some k/\∀n,eI n k=look n)->tn H' id look
 nx:(∀A2 H2,P A2 H2->H.nx<=H2.nx)->H.nx<=H'.nx
 log:∀X:Nat->Prop,(∀i,i<H.nx->¬X i->∃x,∀A2 H2,P A2 H2->H2.get i=x)->(∀A2 H2,P A2 H2->∃l,H2.log=l++H.log/\∀id∈l,H.nx<=id\/X id)->∃l,H'.log=l++H.log/\∀id∈l,H.nx<=id\/X id
section
variable{E:Env}{A:ag}{H:Hp}{r:Option Nat}
open Classical in
def TM{nt:Nat}{df:List Nat}{e0:ax}{P:ag->Hp->Prop}{l:List (ax×ag×Hp)}(I1:l≠[])(hl:∀z∈l,z.1=e0/\z.2.1.nt=nt/\z.2.1.dfr=df/\P z.2.1 z.2.2)
  (hold:∀i,i<H.nx->(∃x,∀A2 H2,P A2 H2->H2.get i=x)\/(∃look:Int->Option AV,∀A2 H2,P A2 H2->∃es c k,H2.get i=some (.oth (.map es c))/\pB es=some k/\∀n,eI n k=look n)\/∀A2 H2,P A2 H2->∃x,H2.get i=some (.oth x)):
  ∃A' H',qD H l=[(e0,A',H')]/\MH H nt df P A' H':=by
 cases l with
 |nil=>exact absurd rfl I1
 |cons x l=>
  obtain⟨Y0,U7,hx3,hx4⟩:=hl x (bh ..);cases l with
  |nil=>
   refine⟨x.2.1,x.2.2,?_,⟨U7,hx3,λt v _ h=>h _ _ hx4,λid x _ h=>(h _ _ hx4).2,λid look _ h=>.inl (h _ _ hx4).2,λh=>h _ _ hx4,λX _ h=>h _ _ hx4⟩⟩;show[x]=_
   rw[<-Y0]
  |cons y l=>
   have e:qD H (x::y::l)=TO H (x::y::l) x:=rfl;have hc:∀z∈x::y::l,z.1=x.1/\z.2.1.nt=x.2.1.nt/\z.2.1.dfr=x.2.1.dfr/\∀id,id<H.nx->z.2.2.t.get id=x.2.2.t.get id\/(∃k,zy (x::y::l) id k)\/∀z∈x::y::l,Cj z id:=λz hz=>by
    obtain⟨a1,a2,a3,a4⟩:=hl z hz;refine⟨a1.trans Y0.symm,a2.trans U7.symm,a3.trans hx3.symm,λid hid=>?_⟩;rcases hold id hid with⟨o,ho⟩|⟨look,ho⟩|ho
    ·exact .inl ((ho _ _ a4).trans (ho _ _ hx4).symm)
    ·obtain⟨es,c,k,_,_,h3⟩:=ho _ _ hx4;refine .inr (.inl ⟨k,λw hw=>?_⟩);obtain⟨es',c',k',W5,h2',h3'⟩:=ho _ _ (hl w hw).2.2.2;exact⟨es',c',k',W5,h2',λn=>(h3' n).trans (h3 n).symm⟩
    exact .inr (.inr λw hw=>ho _ _ (hl w hw).2.2.2)
   have e2:qD H (x::y::l)=[(x.1,⟨uZ (x::y::l) x.2.1.tm x.2.1.nt,x.2.1.nt,x.2.1.dfr⟩,uX H (x::y::l) x.2.2.t)]:=by rw[e];exact ad hc
   refine⟨_,_,by rw[e2,Y0],?_⟩;have I0:∀z∈x::y::l,P z.2.1 z.2.2:=λz hz=>(hl z hz).2.2.2;generalize hL:x::y::l=L at *;have hxL:x∈L:=by rw[<-hL];exact bh ..
   have agree:∀id o,id<H.nx->(∀A2 H2,P A2 H2->H2.get id=o)->∀z∈L,dh H.nx id (z.2.2.t.get id)=dh H.nx id (x.2.2.t.get id):=λid o hid h z hz=>congrArg _ ((h _ _ (I0 z hz)).trans (h _ _ hx4).symm);refine⟨U7,hx3,λt v ht h=>?_,λid o hid h=>?_,λid look hid h=>?_,λh=>?_,λX hX h=>?_⟩
   ·show oe (uZ L x.2.1.tm x.2.1.nt) t=v;have S3:∀z∈L,oe z.2.1.tm t=oe x.2.1.tm t:=λz hz=>(h _ _ (I0 z hz)).trans (h _ _ hx4).symm;rw[tU,ad (by rw[U7];exact ht),ad S3];exact h _ _ hx4
   ·have h1:=h _ _ hx4;have h2:id<vt L:=ay (ay hid h1.1) (oI hxL);rw[jk,ad h2];unfold uY;rw[ad (agree id o hid λA2 H2 hp=>(h A2 H2 hp).2)];show(if id<H.nx then x.2.2.t.get id else _)=_;rw[ad hid];exact h1.2
   ·have h1:=h _ _ hx4;have h2:id<vt L:=ay (ay hid h1.1) (oI hxL);have hg:(uX H L x.2.2.t).get id=uY H.nx L x.2.2.t id:=by rw[jk,ad h2]
    unfold uY at hg;by_cases S3:∀z∈L,dh H.nx id (z.2.2.t.get id)=dh H.nx id (x.2.2.t.get id)
    ·rw[ad S3]at hg;have:dh H.nx id (x.2.2.t.get id)=x.2.2.t.get id:=ad hid;rw[this]at hg;obtain⟨es,c,k,a1,a2,a3⟩:=h1.2;exact .inl ⟨es,c,k,hg.trans a1,a2,a3⟩
    have hk:∃k,zy L id k:=by obtain⟨es,c,k,_,_,a3⟩:=h1.2;refine⟨k,λw hw=>?_⟩;obtain⟨_,es',c',k',W5,h2',h3'⟩:=h _ _ (I0 w hw);exact⟨es',c',k',W5,h2',λn=>(h3' n).trans (a3 n).symm⟩
    rw[ab S3,dif_pos hk]at hg;refine .inr ⟨_,hg,λn=>?_⟩;obtain⟨es,c,k',b1,b2,b3⟩:=hk.choose_spec x hxL;obtain⟨es2,c2,k2,a1,a2,a3⟩:=h1.2;have a1:x.2.2.t.get id=some (.oth (.map es2 c2)):=a1;rw[b1]at a1;cases a1
    rw[b2]at a2;cases a2
    exact(b3 n).symm.trans (a3 n)
   ·exact aD (h _ _ hx4) (oI hxL)
   refine⟨_,rfl,λid hid=>?_⟩;rcases List.mem_append.1 hid with hid|hid
   ·obtain⟨_,h2⟩:=(AZ _).1 hid;rcases cO id H.nx with h3|h3
    ·right;refine gh λhx=>h2 ?_;obtain⟨o,ho⟩:=hX id h3 hx;exact agree id o h3 ho
    exact .inl h3
   obtain⟨z,hz,X1⟩:=List.mem_flatMap.1 hid;obtain⟨l2,e3,f3⟩:=h _ _ (I0 z hz);rw[FH e3]at X1;exact f3 id X1
def R1.Zl{id nt:Nat}{c:Code}{df:List Nat}{Q:ax->ag->Hp->Prop}(P:ag->Hp->Prop)(hj:E.jn id=true)
  (h:RA E r c A H (InB id λe A' H'=>e=.normal/\A'.nt=nt/\A'.dfr=df/\P A' H'))
  (hold:∀i,i<H.nx->(∃x,∀A2 H2,P A2 H2->H2.get i=x)\/(∃look:Int->Option AV,∀A2 H2,P A2 H2->∃es c k,H2.get i=some (.oth (.map es c))/\pB es=some k/\∀n,eI n k=look n)\/∀A2 H2,P A2 H2->∃x,H2.get i=some (.oth x))
  (hq:∀A' H',MH H nt df P A' H'->Q .normal A' H'):R1 E r (.block id c) A H Q:=by
 obtain⟨n,l,h1,h2,h3⟩:=h;obtain⟨n',o,k1,k2,k3⟩:=kQ (f:=λ_ z=>mF id z) (λ_ _=>RLe.refl _) (Q:=λz=>z.1=ax.normal/\z.2.1.nt=nt/\z.2.1.dfr=df/\P z.2.1 z.2.2) l h2 λz hz=>by obtain⟨e,A1,H1⟩:=z;obtain⟨e2,a,b⟩:=La id e A1 H1 (h3 _ hz);exact⟨0,_,a,by simp,λy hy=>by rw[List.mem_singleton.1 hy];exact b⟩
 obtain⟨A',H',j1,j2⟩:=TM (H:=H) k2 k3 hold;refine⟨n,.normal,A',H',?_,hq A' H' j2⟩;show nQ (E.jn id) H (((codeF E c).run (eval E n) r A H).bind (mF id))=_;rw[h1,hj];have e3:R.bind (R.ok l) (mF id)=.ok o:=k1 n' (ai _);rw[e3];show R.ok (qD H o)=_;rw[j1]
end
theorem oF:∀(n:Nat)(l:List (Int×AC)),pB (eX (λx:Int=>.one (.i .i64 x)) n l)=some (l.map λp=>(p.1,AV.one p.2))
 |_,[]=>rfl
 |n,(k,v)::l=>by show(match AV.one (.i .i64 k),pB (eX _ (n+1) l)with|.one (.i .i64 n),some r=>some ((n,AV.one v)::r)|_,_=>none)=_;rw[oF (n+1) l];rfl
theorem si{x:Int}:∀(l:List (Int×AC)),eI x (l.map λp=>(p.1,AV.one p.2))=(atG l x).map AV.one
 |[]=>rfl
 |(k,v)::l=>by
  show(if x=k then some (AV.one v)else eI x _)=(if k=x then some v else atG l x).map AV.one;by_cases h:x=k
  ·subst h;rw[ad rfl,ad rfl];rfl
  rw[ab h,ab λe=>h e.symm,si l]
theorem tn.of{H:Hp}{id:Nat}{l:List (Int×AC)}(h:H.get id=some (jS (λx:Int=>.one (.i .i64 x)) l)):tn H id λn=>(atG l n).map AV.one:=
 .inl ⟨_,_,_,h,oF 0 l,λn=>si l⟩
theorem tn.fr{H H':Hp}{id:Nat}{look:Int->Option AV}{X:Nat->Prop}(h:tn H id look)(hf:Fr X H H')(hid:id<H.nx)(hx:¬X id):tn H' id look:=by unfold tn;rw[hf.get id hid hx];exact h
theorem Ul{P:Program}{kt:TypeId}(hk:bO P kt=1){H:Hp}{z:AV}{id:Nat}{x:Int}{ok:Bool}{look:Int->Option AV}(h:tn H id look):
  bI P H kt z (.one (.o (.mp id))) (.one (.i .i64 x)) ok=(match look x with|some v=>bF H ok v true|none=>bF H ok z false):=by
 rcases h with⟨es,c,k,h1,h2,h3⟩|⟨k,h1,h2⟩
 ·obtain⟨e,e1,e2⟩:=qj (P:=P) hk x h2;rw[h3]at e2;have G0:iH P es.isEmpty kt (.one (.i .i64 x))=some ():=by unfold iH;rw[hk];rfl
  unfold bI;simp only[h1,G0];show(match ln P kt (.one (.i .i64 x)) es with|some (some e)=>bF H ok e.val true|some none=>bF H ok z false|none=>.bad "lookup - keys")=_
  rw[e1,<-e2];cases e<;>rfl
 unfold bI;simp only[h1];show qN P H kt z (.one (.i .i64 x)) ok k=_;unfold qN;rw[hk];show aK (sameKind .i64 .i64) _ (aB (eI x k) _ _)=_;rw[h2];have:sameKind .i64 .i64=true:=rfl;rw[this];cases look x<;>rfl
def aa2(l:List Oper):Bool:=match l with|[]=>false|_=>true
def Gc:List Nat->List Oper->List Nat->Bool
 |_,[],_=>true
 |before,o::os,m::ms=>(Nat.blt (opK o) 4&&cP (plK (aa2 os) o) m 0 before)&&Gc (before++[opK o]) os ms
 |_,_::_,[]=>false
def SL(E:Env)(Q:ag->Hp->Prop):List (Option (Option Tmp×Bool))->List Oper->ag->Hp->Prop
 |_,[],A,H=>Q A H
 |[],_::_,_,_=>False
 |g::gs,o::l,A,H=>bc o.dst A.nt=true/\SU (aa2 l) E o A H (SL E Q gs l) (gw g A.tm)
theorem SL.d1{E:Env}{ops:List Oper}{Q:ag->Hp->Prop}:∀{l:List Oper}{j:Nat}{ms:List Nat}{before:List Nat}{did:List Did}{A:ag}{H:Hp},before.length=j->eN before did->Gc before l ms=true->SL E Q (l.map λo=>gOf ops o.guard) l A H->D1 E (iT E.P ops l) j ms did A H Q
 |[],j,ms,_,_,A,H,_,_,_,h=>D1.nil h
 |o::l,j,[],_,_,A,H,_,_,hs,_=>by cases hs
 |o::l,j,m::ms,before,did,A,H,hj,J2,hs,h=>by
  unfold Gc at hs;rw[aT,aT]at hs;obtain⟨⟨h4,R4⟩,F2⟩:=hs;have h4':opK o<4:=aY h4;obtain⟨hd,hg⟩:=h;have z6:(before++[opK o]).length=j+1:=by simp[hj]
  rcases qu (gOf ops o.guard) A.tm with⟨h1,h2⟩|⟨h1,h2⟩|h1
  ·rw[h1]at hg;exact SK.d1 hj J2 h4' R4 h2 hd (SK.mono hg λA' H' hn did' hd'=>SL.d1 z6 hd' F2 hn)
  ·rw[h1]at hg;exact D1.skip h2 hd (SL.d1 z6 (J2.more _) F2 hg)
  rw[h1]at hg;exact hg.elim
section
variable{E:Env}{r:Option Nat}{z:Code}{B:ag}{H:Hp}{Q:ax->ag->Hp->Prop}
def YW{E:Env}{Q:ag->Hp->Prop}{gs:List (Option (Option Tmp×Bool))}{A:ag}{H:Hp}:SL E Q gs [] A H=Q A H:=by cases gs<;>rfl
end
theorem qJ:(∀(E:Env)(Q:ag->Hp->Prop)(gs:List (Option (Option Tmp×Bool)))(A:ag)(H:Hp),SL E Q gs [] A H=Q A H) /\
  (∀(E:Env)(Q:ag->Hp->Prop)(g:Option (Option Tmp×Bool))(gs:List (Option (Option Tmp×Bool)))(o:Oper)(A:ag)(H:Hp),SL E Q (g::gs) [o] A H=(bc o.dst A.nt=true/\SU false E o A H (SL E Q gs []) (gw g A.tm))) /\
  (∀(E:Env)(Q:ag->Hp->Prop)(g:Option (Option Tmp×Bool))(gs:List (Option (Option Tmp×Bool)))(o o2:Oper)(l:List Oper)(A:ag)(H:Hp),SL E Q (g::gs) (o::o2::l) A H=(bc o.dst A.nt=true/\SU true E o A H (SL E Q gs (o2::l)) (gw g A.tm))):=
 ⟨λ_ _ _ _ _=>YW,λ_ _ _ _ _ _ _=>rfl,λ_ _ _ _ _ _ _ _ _=>rfl⟩
def FrL(n0:Nat)(H H':Hp):Prop:=∃l,H'.log=l++H.log/\∀i∈l,H.nx<=i\/n0<=i
theorem FrL.new{n0:Nat}{X:Nat->Prop}{H H':Hp}{o:aX}(h:Fr X H H')(hn:n0<=H.nx)(hx:∀i,X i->n0<=i):FrL n0 (H.new o) H':=by obtain⟨l,e,f⟩:=h.log;exact⟨l,e,λi hi=>.inr ((f i hi).elim (aD hn) (hx i))⟩
theorem AE{wr:List Nat}:∀{us:List Did},(∀u∈us,∀i∈wr,u.X1.get i=none)->gq us wr=true
 |[],_=>rfl
 |x::us,h=>by
  have f1:∀(l:List Nat),(∀i∈l,x.X1.get i=none)->xC x.X1 l=true:=λl=>by
   induction l with
   |nil=>intro _;rfl
   |cons i l ih=>intro hl;show aB (x.X1.get i) (xC x.X1 l) (λ_=>false)=true;rw[hl i (bh ..)];exact ih λk hk=>hl k (aU _ hk)
  show both (xC x.X1 wr) (gq us wr)=true;rw[f1 wr (h x (bh ..)),AE λu hu=>h u (aU _ hu)];rfl
theorem zc{Z:Did->Prop}{did:List Did}{u:Did}(h:∀u∈did,Z u)(hu:Z u):∀w∈u::did,Z w:=λw hw=>(List.mem_cons.1 hw).elim (λe=>by rw[e];exact hu) (h w)
theorem Yj{H:Hp}{tm:PT AV}{o:Oper}{us:List Did}(hk:bS o=1){i:Nat}(hi:H.nx<=i):(bk H.t H.nx tm o us).get i=none:=by
 have e:bk H.t H.nx tm o us=cS .leaf H.t ((oN H.t (o.op.operands.toList.flatMap λx=>(ev tm x).ids)).filter λi=>Nat.blt i H.nx&&!us.any (cQ · i)):=by unfold bk;rw[hk];rfl
 rw[e,qs,ab]
 ·rfl
 rw[xg];intro h;have h2:=h.2;rw[aT]at h2;have:i<H.nx:=aY h2.1;omega
def abc:Code->Nat->Option Code
 |.seq x y,n=>if n=0 then some x else some y
 |.cond _ x y,n=>if n=0 then some x else some y
 |.rangeFunc _ _ x y,n=>if n=0 then some x else some y
 |.block _ x,_=>some x
 |.loop x,_=>some x
 |.scope x,_=>some x
 |_,_=>none
def atC(c:Code):List Nat->Option Code
 |[]=>some c
 |n::p=>match abc c n with|some d=>atC d p|none=>none
def atF(f:Func)(p:List Nat):Option Code:=match f.body with|some c=>atC c p|none=>none
section
variable{E:Env}{r:Option Nat}{z:Code}{B:ag}{H:Hp}{Q:ax->ag->Hp->Prop}
def R1.label{id:Nat}(h:Q .normal B H):R1 E r (.label id) B H Q:=⟨0,_,_,_,rfl,h⟩
def R1.FX{id:Nat}(h:R1 E r z B H Q):R1 E r (.seq (.label id) z) B H Q:=R1.seq (R1.label h)
end
def DE(n0:Nat)(o:Oper)(A:ag):Prop:=opK o=2->∀x∈eS o,ltV (ev A.tm x) n0
def Zq(P n0:Nat)(u:Did):Prop:=((∀i∈u.wr,n0<=i)/\n0<=u.c0)/\(u.idx<P->u.wr=[]/\u.c0=u.c1/\∀i,n0<=i->u.X1.get i=none)
theorem Zq.old{P n0:Nat}{u:Did}(h:Zq P n0 u){i:Nat}(hi:i<n0):cQ u i=false:=by
 cases ht:cQ u i with
 |false=>rfl
 |true=>
  rcases oY.1 ht with h1|h1
  ·have:=h.1.1 i h1;omega
  have:=h.1.2;omega
section
variable{st:Bool}{E:Env}{A:ag}{H:Hp}{Q:ag->Hp->Prop}{g:Option (Option Tmp×Bool)}{l:List OF}{j m:Nat}{ms:List Nat}{did:List Did}{before:List Nat}
def aaB{P n0:Nat}{o:Oper}(hz:∀u∈did,Zq P n0 u)(D3:n0<=H.nx)(hjP:¬j<P)(hj:before.length=j)(J2:eN before did)(hk:opK o=3)(F1:dE o=false)(c8:∀u∈bf m did,(u.wr=[]/\u.c0=u.c1)/\∀i,n0<=i->u.X1.get i=none)
  (hg:∀y n:R (ag×Hp),cy A.tm g y n=y) (hd:bc o.dst A.nt=true)
  (h:SK true E o A H λA' H'=>FrL n0 H H'/\∀did',eN (before++[3]) did'->(∀u∈did',Zq P n0 u)->n0<=H'.nx->D1 E l (j+1) ms did' A' H' Q):D1 E (⟨g,o.dst,aQ E.P o,o⟩::l) j (m::ms) did A H Q:=by
 have B4:=qO hk aE;obtain⟨hl,v,H',hn,L1⟩:=SK.val F1 h;rw[F1]at B4;have hu0:∀u∈bf m did,∀i,cQ u i=false:=λu hu i=>by
  obtain⟨⟨a,b⟩,_⟩:=c8 u hu;cases ht:cQ u i with
  |false=>rfl
  |true=>
   rcases oY.1 ht with h|h
   ·rw[a]at h;cases h
   omega
 have S3:=EI (us:=bf m did) B4 hl λu hu i=>hu0 u hu i;generalize J1:bk H.t H.nx A.tm o (bf m did)=sub at S3;refine D1.cons hg hd J1 ?_;have hdo:∀u:Did,u.idx=j->eN (before++[3]) (u::did):=λu z6=>J2.cons (z6.trans hj.symm) aE (λh=>by cases h);rcases SH hk F1 (P:=E.P) _ _ _ _ hn with⟨e1,e2⟩|⟨x,e1,e2⟩|⟨id,x,k,e1,ek,⟨y,hy,hyid⟩,e2⟩
 ·rw[e2 _ S3];subst e1;refine N1.val ⟨eZ _,?_⟩;rw[B4];have e3:dU 1 H' ⟨sub,H'.nx,[]⟩ [] []=H'.t:=by show cS H'.t sub (db H'.nx (H'.nx-H'.nx))=H'.t;rw[ga];rfl
  show D1 E l (j+1) ms _ (cE A o.dst v) ⟨dU 1 H' ⟨sub,H'.nx,[]⟩ [] [],H'.nx,[]++H'.log⟩ Q;rw[e3];exact L1.2 _ (hdo _ rfl) (zc hz ⟨⟨λi hi=>(by cases hi),D3⟩,λh=>absurd h hjP⟩) D3
 ·rw[e2 _ S3];subst e1;refine N1.val ⟨eZ _,?_⟩;rw[B4];have e3:dU 1 H (Hp.new ⟨sub,H.nx,[]⟩ x) [] []=H.t.set H.nx x:=by show cS H.t (sub.set H.nx x) (db H.nx (H.nx+1-H.nx))=_;have:H.nx+1-H.nx=1:=aa;rw[this];show PT.put ((sub.set H.nx x).get H.nx) H.t H.nx=_;rw[PT.eQ,ad rfl];rfl
  show D1 E l (j+1) ms _ (cE A o.dst v) ⟨dU 1 H (Hp.new ⟨sub,H.nx,[]⟩ x) [] [],H.nx+1,[]++H.log⟩ Q;rw[e3];exact L1.2 _ (hdo _ rfl) (zc hz ⟨⟨λi hi=>(by cases hi),D3⟩,λh=>absurd h hjP⟩) (tZ D3)
 rw[e2 _ S3];subst e1;have hid:id<H.nx:=hl.mem hy hyid;have hwr:eF sub H.nx [id]=[id]:=by show Eng.ifE (Nat.blt id H.nx) (aB (sub.get id) (eF sub H.nx []) λ_=>id::eF sub H.nx []) (eF sub H.nx [])=_;have f1:Nat.blt id H.nx=true:=bG hid;have f2:sub.get id=some k:=(S3.2 y hy id hyid).trans ek;rw[f1,f2];rfl
 have hge:n0<=id:=by
  obtain⟨lg,e3,f3⟩:=L1.1;have e4:lg=[id]:=(sN (show[id]++H.log=lg++H.log from e3)).symm;rcases f3 id (by rw[e4];exact List.mem_singleton.2 rfl)with h|h
  ·omega
  exact h
 have hfree:gq (bf m did) (eF sub H.nx [id])=true:=by rw[hwr];exact AE λu hu i hi=>by rw[List.mem_singleton.1 hi];exact(c8 u hu).2 id hge
 refine N1.val ⟨hfree,?_⟩;rw[B4];have e3:dU 1 H (Hp.mod ⟨sub,H.nx,[]⟩ id x) [] [id]=H.t.set id x:=by show cS H.t (sub.set id x) ([id]++db H.nx (H.nx-H.nx))=_;rw[ga];show PT.put ((sub.set id x).get id) H.t id=_;rw[PT.eQ,ad rfl];rfl
 show D1 E l (j+1) ms _ (cE A o.dst v) ⟨dU 1 H (Hp.mod ⟨sub,H.nx,[]⟩ id x) [] (eF sub H.nx [id]),H.nx,eF sub H.nx [id]++H.log⟩ Q;rw[hwr,e3];have hzz:Zq P n0 ⟨j,sub,H.nx,H.nx,[id]⟩:=⟨⟨λi hi=>by rw[List.mem_singleton.1 hi];exact hge,D3⟩,λh=>absurd h hjP⟩;exact L1.2 _ (hdo _ rfl) (zc hz (show Zq P n0 ⟨j,sub,H.nx,H.nx,eF sub H.nx [id]⟩ by rw[hwr];exact hzz)) D3
variable{n0:Nat}
def q_d1{P:Nat}{o:Oper}(hj:before.length=j)(J2:eN before did)(hz:∀u∈did,Zq P n0 u)(D3:n0<=H.nx)(h4:(Nat.blt (opK o) 3||dE o)=true)(hs:(Nat.beq (opK o) 2||cP (plK true o) m 0 before)=true)(h0:j<P->(opK o=0\/opK o=2)/\H.nx=n0)(ho:DE n0 o A)
  (hg:∀y n:R (ag×Hp),cy A.tm g y n=y) (hd:bc o.dst A.nt=true)
  (h:SK true E o A H λA' H'=>∀did',eN (before++[opK o]) did'->(∀u∈did',Zq P n0 u)->n0<=H'.nx->(j<P->H'.nx=n0)->D1 E l (j+1) ms did' A' H' Q):D1 E (⟨g,o.dst,aQ E.P o,o⟩::l) j (m::ms) did A H Q:=by
 cases F1:dE o with
 |true=>
  have hk:opK o=3:=by
   obtain⟨dst,op,type,pos,after,guard⟩:=o;cases op with
   |call c=>
    obtain⟨ce,as,ts⟩:=c;cases ce with
    |value f=>rfl
    |invoke _ _=>cases F1
    |builtin _=>cases F1
   |_=>cases F1
  have hjP:¬j<P:=λhP=>by have:=(h0 hP).1;omega
  obtain⟨d,f,as,ts,ty,pos,af,gd,rfl⟩:=Dl hk F1;have hs':cP 6 m 0 before=true:=hs;have hlk2:bS ⟨d,.call ⟨.value f,as,ts⟩,ty,pos,af,gd⟩=2:=rfl;have hwe:WE true E A d (λA H=>∀did',eN (before++[3]) did'->(∀u∈did',Zq P n0 u)->n0<=H.nx->(j<P->H.nx=n0)->D1 E l (j+1) ms did' A H Q) H ((aQ E.P ⟨d,.call ⟨.value f,as,ts⟩,ty,pos,af,gd⟩).run A.tm H):=h;obtain⟨_,hcn⟩:=WE.inv hwe;have hids:(bf m did).flatMap fS=[]:=by rw[vX];intro i hi;obtain⟨u,hu,hiu⟩:=List.mem_flatMap.1 hi;rw[xI,J2.YI hs' u hu i]at hiu;cases hiu
  have hwr:∀{h':Hp},Gr ⟨H.t,H.nx,[]⟩ h'->eF H.t H.nx h'.log=[]:=λ{h'}hg=>by
   obtain⟨lg,e,hl⟩:=hg.log;rw[vX];intro i hi;obtain⟨a1,a2,_⟩:=lJ.1 hi;rw[e,List.append_nil]at a1;rcases hl i a1 with h|h
   ·have h':H.nx<=i:=h;omega
   exact h
  have J1:bk H.t H.nx A.tm ⟨d,.call ⟨.value f,as,ts⟩,ty,pos,af,gd⟩ (bf m did)=H.t:=by unfold bk;rw[hlk2];show pV H.t ((bf m did).flatMap fS)=H.t;rw[hids];rfl
  refine D1.cons hg hd J1 ?_;have hn':(aQ E.P ⟨d,.call ⟨.value f,as,ts⟩,ty,pos,af,gd⟩).run A.tm ⟨H.t,H.nx,[]⟩=(aQ E.P ⟨d,.call ⟨.value f,as,ts⟩,ty,pos,af,gd⟩).run A.tm H:=rfl;rw[hn'];refine(hcn []).mono λv h'⟨B2,L1⟩=>⟨by rw[hwr (B2 rfl)];exact eZ _,?_⟩;rw[hlk2,hwr (B2 rfl)];have e1:dU 2 H h' (bf m did) []=h'.t:=by show cS h'.t H.t ((bf m did).flatMap fS)=h'.t;rw[hids];rfl
  rw[e1];have V1:H.nx<=h'.nx:=(B2 rfl).nx;refine L1 ([]++H.log) (λX hf=>⟨hf.nx,hf.get,[],rfl,λi hi=>(by cases hi)⟩) _ ?_ ?_ (aD D3 V1) (λh=>absurd h hjP)
  ·have e2:note 2 j H.t H h' did []=⟨j,H.t,H.nx,h'.nx,[]⟩::did:=rfl;rw[e2];exact J2.cons hj.symm aE (λh=>by cases h)
  have e2:note 2 j H.t H h' did []=⟨j,H.t,H.nx,h'.nx,[]⟩::did:=rfl;rw[e2];exact zc hz ⟨⟨λi hi=>(by cases hi),D3⟩,λh=>absurd h hjP⟩
 |false=>
  rw[F1,Bool.or_false]at h4;have h4':opK o<3:=aY h4;generalize hk:opK o=k at h4' hs h h0;have B4:=qO hk aa;obtain⟨hl,v,H',hn,L1⟩:=SK.val F1 h;rw[F1]at B4;match k,hk,h4',hs,B4,h0 with
  |0,hk,_,hs,B4,h0=>
   rcases OV hk (P:=E.P) (tm:=A.tm)with⟨v',hp⟩|hp
   ·have e:=(hp H).symm.trans hn;injection e with e1 e2
    subst e1 e2;exact D1.pure hg hd B4 (hp _) (L1 _ (J2.more 0) hz D3 λh=>(h0 h).2)
   exact absurd hn (hp _ _ _)
  |1,hk,_,hs,B4,h0=>
   obtain⟨x,e1,e2⟩:=OU hk (P:=E.P) (tm:=A.tm) _ _ _ hn;subst e1;refine D1.make hg hd B4 (e2 ⟨.leaf,H.nx,[]⟩ rfl) (L1 _ (J2.cons hj.symm aE (λh=>by cases h)) (zc hz ⟨⟨λi hi=>(by cases hi),D3⟩,λh=>?_⟩) (tZ D3) λh=>?_)
   ·have:=(h0 h).1;omega
   have:=(h0 h).1;omega
  |2,hk,_,hs,B4,h0=>
   obtain⟨e1,e2⟩:=El hk (P:=E.P) _ _ _ _ hn;subst e1;have S3:Agr o A.tm H' ⟨bk H'.t H'.nx A.tm o (bf m did),H'.nx,[]⟩:=⟨rfl,λx hx id hid=>Kh B4 (AU hx) hid (hl.mem hx hid) λu hm=>by exact(hz u (da.1 hm).1).old (ho hk _ hx _ hid)⟩
   refine D1.look hg hd B4 (e2 _ S3) λsub J1=>L1 _ (J2.cons hj.symm aE (λ_=>⟨rfl,rfl⟩)) (zc hz ⟨⟨λi hi=>(by cases hi),D3⟩,λh=>⟨rfl,rfl,λi hi=>?_⟩⟩) D3 λh=>(h0 h).2;subst J1;exact Yj B4 (by have:=(h0 h).2;omega)
  |k+3,_,h4',_,_,_=>omega
end
def Bg(m P:Nat):Nat->List Nat->Bool
 |_,[]=>true
 |i,ki::ks=>(Nat.testBit m i||(Nat.beq ki 0||Nat.blt i P))&&Bg m P (i+1) ks
theorem DK{m P:Nat}:∀{ks:List Nat}{i:Nat},Bg m P i ks=true->∀n k,ks[n]?=some k->Nat.testBit m (i+n)=true\/k=0\/i+n<P
 |[],i,_,n,k,h=>by cases h
 |x::ks,i,hp,0,k,h=>by
  cases h
  unfold Bg at hp;rw[aT,eW,eW]at hp;exact hp.1.imp id λh=>h.imp aN aY
 |x::ks,i,hp,n+1,k,h=>by unfold Bg at hp;rw[aT]at hp;have:=DK hp.2 n k h;have e:i+(n+1)=i+1+n:=aa;rw[e];exact this
def Tr:List Oper->Nat
 |[]=>0
 |o::l=>bif Nat.beq (opK o) 0||Nat.beq (opK o) 2 then Tr l+1 else 0
def qt(o:Oper):Bool:=Nat.beq (opK o) 3&&!dE o
def JT(P:Nat):Nat->Nat->List Nat->List Oper->List Nat->Bool
 |0,_,before,l,ms=>Gc before l ms
 |_+1,_,_,[],_=>true
 |k+1,j,before,o::os,m::ms=>((bif qt o then Bg m P 0 before else((Nat.blt (opK o) 3||dE o)&&(Nat.beq (opK o) 2||cP (plK true o) m 0 before)))&&(Nat.ble P j||(Nat.beq (opK o) 0||Nat.beq (opK o) 2)))&&JT P k (j+1) (before++[opK o]) os ms
 |_+1,_,_,_::_,[]=>false
def OO(k:Nat)(ops:Array Oper):Bool:=fY ops&&JT (Tr ops.toList) k 0 [] ops.toList (fE [] 0 ops.toList)
def SUq(n0:Nat)(E:Env)(o:Oper)(A:ag)(H:Hp)(next:ag->Hp->Prop)(g:GW):Prop:=
 match g with
 |.yes=>bif qt o then SK true E o A H (λA' H'=>FrL n0 H H'/\next A' H')else DE n0 o A/\SK true E o A H next
 |.no=>next (cE A o.dst aP) H
 |.lost=>False
def SMq(E:Env)(Q:ag->Hp->Prop)(n0:Nat):Nat->List (Option (Option Tmp×Bool))->List Oper->ag->Hp->Prop
 |0,gs,l,A,H=>SL E Q gs l A H
 |_+1,_,[],A,H=>Q A H
 |_+1,[],_::_,_,_=>False
 |k+1,g::gs,o::l,A,H=>bc o.dst A.nt=true/\SUq n0 E o A H (SMq E Q n0 k gs l) (gw g A.tm)
theorem SMq.d1{E:Env}{ops:List Oper}{Q:ag->Hp->Prop}{P n0:Nat}:∀{k:Nat}{l:List Oper}{j:Nat}{ms:List Nat}{before:List Nat}{did:List Did}{A:ag}{H:Hp},before.length=j->eN before did->(∀u∈did,Zq P n0 u)->n0<=H.nx->(j<=P->H.nx=n0)->JT P k j before l ms=true ->
  SMq E Q n0 k (l.map λo=>gOf ops o.guard) l A H->D1 E (iT E.P ops l) j ms did A H Q
 |0,l,j,ms,_,_,A,H,hj,J2,_,_,_,hs,h=>SL.d1 hj J2 (by unfold JT at hs;exact hs) (by unfold SMq at h;exact h)
 |_+1,[],j,ms,_,_,A,H,_,_,_,_,_,_,h=>D1.nil h
 |_+1,o::l,j,[],_,_,A,H,_,_,_,_,_,hs,_=>by cases hs
 |k+1,o::l,j,m::ms,before,did,A,H,hj,J2,hz,D3,hP,hs,h=>by
  unfold JT at hs;rw[aT,aT]at hs;obtain⟨⟨R4,hp⟩,F2⟩:=hs;obtain⟨hd,hg⟩:=h;have z6:(before++[opK o]).length=j+1:=by simp[hj]
  have R3:j<P->opK o=0\/opK o=2:=λD0=>by
   rw[eW,eW]at hp;rcases hp with hp|hp
   ·have:=aY hp;omega
   exact hp.imp aN aN
  rcases qu (gOf ops o.guard) A.tm with⟨h1,h3⟩|⟨h1,h3⟩|h1
  ·rw[h1]at hg;cases B2:qt o with
   |true=>
    rw[B2]at R4;have hg:SK true E o A H (λA' H'=>FrL n0 H H'/\SMq E Q n0 k (l.map λo=>gOf ops o.guard) l A' H'):=by have hg2:(bif qt o then SK true E o A H (λA' H'=>FrL n0 H H'/\SMq E Q n0 k (l.map λo=>gOf ops o.guard) l A' H')else DE n0 o A/\SK true E o A H (SMq E Q n0 k (l.map λo=>gOf ops o.guard) l)):=hg;rw[B2]at hg2;exact hg2
    have hgr2:=B2;unfold qt at hgr2;rw[aT]at hgr2;have hk:opK o=3:=aN hgr2.1;have F1:dE o=false:=by simpa using hgr2.2
    have hjP:¬j<P:=λh=>by have:=R3 h;omega
    have c8:∀u∈bf m did,(u.wr=[]/\u.c0=u.c1)/\∀i,n0<=i->u.X1.get i=none:=λu hu=>by
     obtain⟨a1,a2⟩:=da.1 hu;obtain⟨ku,b1,b2,_⟩:=J2 u a1;rcases DK R4 u.idx ku b1 with h|h|h
     ·rw[Nat.zero_add,a2]at h;cases h
     ·exact absurd h b2
     obtain⟨c1,c2,c3⟩:=(hz u a1).2 aa;exact⟨⟨c1,c2⟩,c3⟩
    rw[hk]at z6 F2;exact aaB hz D3 hjP hj J2 hk F1 c8 h3 hd (SK.mono hg λA' H' hn=>⟨hn.1,λdid' hd' hz' hn'=>SMq.d1 z6 hd' hz' hn' (λh=>aa) F2 hn.2⟩)
   |false=>
    rw[B2,cond_false,aT]at R4;have hg:DE n0 o A/\SK true E o A H (SMq E Q n0 k (l.map λo=>gOf ops o.guard) l):=by have hg2:(bif qt o then SK true E o A H (λA' H'=>FrL n0 H H'/\SMq E Q n0 k (l.map λo=>gOf ops o.guard) l A' H')else DE n0 o A/\SK true E o A H (SMq E Q n0 k (l.map λo=>gOf ops o.guard) l)):=hg;rw[B2]at hg2;exact hg2
    exact q_d1 hj J2 hz D3 R4.1 R4.2 (λh=>⟨R3 h,hP (sK h)⟩) hg.1 h3 hd (SK.mono hg.2 λA' H' hn did' hd' hz' hn' hP'=>SMq.d1 z6 hd' hz' hn' (λh=>hP' aa) F2 hn)
  ·rw[h1]at hg;exact D1.skip h3 hd (SMq.d1 z6 (J2.more _) hz D3 (λh=>hP aa) F2 hg)
  rw[h1]at hg;exact hg.elim
section
variable{E:Env}{r:Option Nat}{z:Code}{B:ag}{H:Hp}{Q:ax->ag->Hp->Prop}
def R1.smq{id:Nat}{ops:Array Oper}(k:Nat)(hs:OO k ops=true)(h:SMq E (λA H=>Q .normal A H) H.nx k (ops.toList.map λo=>gOf ops.toList o.guard) ops.toList B H):R1 E r (.region id ops true) B H Q:=by unfold OO at hs;rw[aT]at hs;exact R1.draw hs.1 (SMq.d1 rfl (λu hu=>by cases hu) (λu hu=>by cases hu) (ai _) (λ_=>rfl) hs.2 h)
def R1.s_q{id:Nat}{ops:Array Oper}(k:Nat)(hs:OO k ops=true)(h:∀K:ag->Hp->Prop,Hd (∀B H,R1 E r z B H Q->K B H)->SMq E K H.nx k (ops.toList.map λo=>gOf ops.toList o.guard) ops.toList B H):R1 E r (.seq (.region id ops true) z) B H Q:=
 R1.seq (R1.smq k hs (h _ λ_ _ h=>h))
def R1.e_q{id:Nat}{ops:Array Oper}(k:Nat)(hs:OO k ops=true)(h:∀K:ag->Hp->Prop,Hd (∀B H,Q .normal B H->K B H)->SMq E K H.nx k (ops.toList.map λo=>gOf ops.toList o.guard) ops.toList B H):R1 E r (.region id ops true) B H Q:=
 R1.smq k hs (h _ λ_ _ h=>h)
end
section
variable{E:Env}{Q next:ag->Hp->Prop}{n0 k f n:Nat}{gs:List (Option (Option Tmp×Bool))}{g:Option (Option Tmp×Bool)}{o:Oper}{l:List Oper}{A:ag}{H:Hp}{d:Option Tmp}{t u ty:TypeId}{x y w:Operand}{b:BinOp}{c:UnOp}{ok:Bool}{as:Array Operand}{ts:Array TypeId}{fs:Array (Nat×Operand)}{pos:String}{af:Array Edge}{gd:Option (Nat×Bool)}
def Yr:SMq E Q n0 0 gs l A H=SL E Q gs l A H:=by unfold SMq;rfl
def Yt:SMq E Q n0 (k+1) gs [] A H=Q A H:=by cases gs<;>rfl
def Ys:SMq E Q n0 (k+1) (g::gs) (o::l) A H=(bc o.dst A.nt=true/\SUq n0 E o A H (SMq E Q n0 k gs l) (gw g A.tm)):=rfl
def RT:SUq n0 E o A H next .no=next (cE A o.dst aP) H:=rfl
def pK{P:Prop}(h:qt o=false)(h2:Nat.beq (opK o) 2=false)(e:SK true E o A H next=P):SUq n0 E o A H next .yes=P:=by subst e;unfold SUq;rw[h];exact propext ⟨λh=>h.2,λh=>⟨λe=>(by rw[e]at h2;cases h2),h⟩⟩
def Yv(h:qt o=false)(h2:opK o=2)(h3:eS o=[x]):SUq n0 E o A H next .yes=(ltV (ev A.tm x) n0/\SK true E o A H next):=by unfold SUq DE;rw[h,h3];exact propext (and_congr_left' ⟨λh=>h h2 _ (List.mem_singleton.2 rfl),λh _ z hz=>by rw[List.mem_singleton.1 hz];exact h⟩)
def He:SUq n0 E ⟨d,.load t x,ty,pos,af,gd⟩ A H next .yes=(ltV (ev A.tm x) n0/\SK true E ⟨d,.load t x,ty,pos,af,gd⟩ A H next):=Yv rfl rfl rfl
def zx:SUq n0 E ⟨d,.lookup t x y ok,ty,pos,af,gd⟩ A H next .yes=(ltV (ev A.tm x) n0/\SK true E ⟨d,.lookup t x y ok,ty,pos,af,gd⟩ A H next):=Yv rfl rfl rfl
def MQ:SUq n0 E ⟨d,.call ⟨.builtin .append,⟨[x,y]⟩,⟨[t,u]⟩⟩,ty,pos,af,gd⟩ A H next .yes=SK true E ⟨d,.call ⟨.builtin .append,⟨[x,y]⟩,⟨[t,u]⟩⟩,ty,pos,af,gd⟩ A H (λA' H'=>FrL n0 H H'/\next A' H'):=rfl
def Hc:SUq n0 E ⟨d,.call ⟨.value x,as,ts⟩,ty,pos,af,gd⟩ A H next .yes=SK true E ⟨d,.call ⟨.value x,as,ts⟩,ty,pos,af,gd⟩ A H next:=pK rfl rfl rfl
def Hf:SUq n0 E ⟨d,.move x,ty,pos,af,gd⟩ A H next .yes=next (cE A d (ev A.tm x)) H:=pK rfl rfl EA
def zw:SUq n0 E ⟨d,.assign x,ty,pos,af,gd⟩ A H next .yes=next (cE A d (ev A.tm x)) H:=pK rfl rfl wz
def uv:SUq n0 E ⟨d,.nilCheck x,ty,pos,af,gd⟩ A H next .yes=SK true E ⟨d,.nilCheck x,ty,pos,af,gd⟩ A H next:=pK rfl rfl rfl
def RR:SUq n0 E ⟨d,.fieldAddr t x f,ty,pos,af,gd⟩ A H next .yes=SK true E ⟨d,.fieldAddr t x f,ty,pos,af,gd⟩ A H next:=pK rfl rfl rfl
def RS:SUq n0 E ⟨d,.indexAddr t x y,ty,pos,af,gd⟩ A H next .yes=SK true E ⟨d,.indexAddr t x y,ty,pos,af,gd⟩ A H next:=pK rfl rfl rfl
def Ci:SUq n0 E ⟨d,.build t fs,ty,pos,af,gd⟩ A H next .yes=SK true E ⟨d,.build t fs,ty,pos,af,gd⟩ A H next:=pK rfl rfl rfl
def RQ:SUq n0 E ⟨d,.buildSlice t n fs,ty,pos,af,gd⟩ A H next .yes=SK true E ⟨d,.buildSlice t n fs,ty,pos,af,gd⟩ A H next:=pK rfl rfl rfl
def MR:SUq n0 E ⟨d,.binOp b t x y u,ty,pos,af,gd⟩ A H next .yes=SK true E ⟨d,.binOp b t x y u,ty,pos,af,gd⟩ A H next:=pK rfl rfl rfl
def RU:SUq n0 E ⟨d,.unOp c t x,ty,pos,af,gd⟩ A H next .yes=SK true E ⟨d,.unOp c t x,ty,pos,af,gd⟩ A H next:=pK rfl rfl rfl
def Hg:SUq n0 E ⟨d,.pick x y w,ty,pos,af,gd⟩ A H next .yes=SK true E ⟨d,.pick x y w,ty,pos,af,gd⟩ A H next:=pK rfl rfl rfl
end
theorem qQ:type_of% (zDm @Yr @Yt @Ys @RT @He @zx @MQ @Hc @Hf @zw @uv (zDh @RR @RS @Ci @RQ @MR @RU @Hg)):=zDm @Yr @Yt @Ys @RT @He @zx @MQ @Hc @Hf @zw @uv (zDh @RR @RS @Ci @RQ @MR @RU @Hg)
theorem FrL.of{n0:Nat}{X:Nat->Prop}{H H':Hp}(h:Fr X H H')(hx:∀i,X i->n0<=i):FrL n0 H H':=by obtain⟨l,e,f⟩:=h.log;exact⟨l,e,λi hi=>(f i hi).imp id (hx i)⟩
theorem MZ{P:Program}{H:Hp}{t e:TypeId}{sz by_ n:Nat}{z:Value}{v:AC}{cells:List AC}(he:bV P t=some (e,sz))(hb:dA P e=some by_)(hz:ba P e=some z)(S2:(ofValue z).cells.length=sz)(M1:sz≠0)
  (hv:SlC H v sz n cells) (h2:n<=140737488355328/\n*by_<=140737488355328):∃v' H',bN P H t (.one (.o .nilS)) (.one v)=.val (.one v') H'/\SlC H' v' sz n cells/\(∀id∈(AV.one v').ids,H.nx<=id)/\Gr H H':=by
 obtain⟨v',H',r',h1,h2,h3,h4⟩:=Na he hb hz S2 M1 hv h2;refine⟨v',H',h1,h2.slc,λi hi=>?_,h3⟩;rcases h2 with⟨rfl,_⟩|⟨id,_,_,hr,rfl,_⟩
 ·cases hi
 rw[List.mem_singleton.1 hi];exact h4 id hr
theorem zQ{p a b:Prop}(f:p)(hb:b)(e:p->Hd b->a:=by intro f hW;simp only[qB,qQ,qJ,bc,Nat.reduceLT,Nat.reduceEqDiff,Nat.reduceLeDiff,reduceIte,Nat.reduceAdd,Nat.reduceSub,Nat.reduceMul,Int.reduceLT,Int.reduceLE,Int.reduceBEq, *];exact hW.out):a:=e f hb
theorem zO{p a b:Prop}(f:p)(hb:b)(e:p->Hd b->a:=by
  intro f hW;repeat refine R1.aM ?_
  (first|refine R1.s_q 1000 ae λK hK=>?_|refine R1.e_q 1000 ae λK hK=>?_)
  simp only[qB,qQ,bc,Nat.reduceLT,Nat.reduceEqDiff,Nat.reduceLeDiff,reduceIte,Nat.reduceAdd,Nat.reduceSub,Nat.reduceMul,Int.reduceLT,Int.reduceLE,Int.reduceBEq, *];revert K
  exact hW.out):a:=e f hb
end Go.Eng

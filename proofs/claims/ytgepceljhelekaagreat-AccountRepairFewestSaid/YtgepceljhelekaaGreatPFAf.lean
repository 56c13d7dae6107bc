/- A part of the proof: EngIter, EngMap, EngOpen, EngBun, EngOws, EngRow, EngOpS, EngPlain, EngWk, EngStar, EngApp, EngBits, EngAll, EngMap2, EngJn, EngIns, EngJoin, EngLast, EngQ. No conditions. -/
import Derived.Test.YtgepceljhelekaaGreatPFAe
import Derived.Deep.Slices
import Derived.SizedLaws
import Derived.KernelRfl
set_option maxRecDepth 100000
set_option maxHeartbeats 64000000
set_option linter.all false
namespace Go.Eng
open Go
def R1.kX{E:Env}{r:Option Nat}{A:aa}{H:Hp}{Q:ak->aa->Hp->Prop}{id:Nat}{c:Code}(h:∀K:ak->aa->Hp->Prop,(∀A H,Q .normal A H->K .normal A H)->(∀A H,Q .normal A H->K (.exit id) A H)->(∀i A H,i≠id->Q (.exit i) A H->K (.exit i) A H)->(∀A H,Q .ret A H->K .ret A H)->R1 E r c A H K):R1 E r (.block id c) A H Q:=by
 refine R1.block (h _ (λ_ _ h=>h) (λA H h=>?_) (λi A H hi h=>?_) λ_ _ h=>h)
 ·show if id=id then Q .normal A H else Q (.exit id) A H;rw[zB0 rfl];exact h
 show if i=id then Q .normal A H else Q (.exit i) A H;rw[zB1 hi];exact h
structure Sm(L:Nat)(H H':Hp):Prop where
 nx:H.nx≤H'.nx
 get:∀i,i<H.nx->i≠L->H'.get i=H.get i
def Sm.refl{L:Nat}(H:Hp):Sm L H H:=⟨zA1 _,λ_ _ _=>rfl⟩
def Sm.same{L:Nat}{H H':Hp}(ht:H'.t=H.t)(hn:H'.nx=H.nx):Sm L H H':=⟨Nat.le_of_eq hn.symm,λi _ _=>by show H'.t.get i=H.t.get i;rw[ht]⟩
def Sm.trans{L:Nat}{H H1 H2:Hp}(h:Sm L H H1)(k:Sm L H1 H2):Sm L H H2:=
 ⟨zA2 h.nx k.nx,λi hi hn=>(k.get i (zA0 hi h.nx) hn).trans (h.get i hi hn)⟩
def Sm.mod{L:Nat}(H:Hp)(o:aJ):Sm L H (H.mod L o):=⟨zA1 _,λi _ hn=>au hn⟩
def Zr(E:Env)(n:ab)(H:Hp)(X:Nat->Prop)(Q:AV->Hp->Prop):Prop:=
 ∀lg,N1 E ⟨H.t,H.nx,lg⟩ n λv h'=>Fr X ⟨H.t,H.nx,lg⟩ h'∧∀lg',Q v ⟨h'.t,h'.nx,lg'⟩
section
variable{E:Env}{H:Hp}{X:Nat->Prop}{Q:AV->Hp->Prop}
theorem WE.YT{A:aa}{d:Option Tmp}{next:aa->Hp->Prop}{id:Nat}{args:List AV}(h:Zr E (.round id args) H X Q)(hn:∀v H',Fr X H H'->Q v H'->next (bI A d v) H'):WE false E A d next H (.round id args):=λlg=>
 (h lg).mono λ_ _⟨h1,h2⟩=>⟨λh=>(by cases h),λlg' hx=>hn _ _ (hx X h1) (h2 lg')⟩
theorem xE{P:Program}{id:Nat}{args:List AV}:mr P (.one (.o (.yl id))) args=.round id args:=rfl
end
def dL(tm:PT AV)(nt:Nat)(ps:List Tmp)(as bo:Code)(d:Nat)(st:LoopState)(pe:Option Code):aJ:=.oth (.loop st pe tm nt ps as bo d)
def Jk(tm:PT AV)(nt:Nat)(ps:List Tmp)(as bo:Code)(d:Nat):ak->aJ
 |.normal=>dL tm nt ps as bo d .ready none
 |.ret=>dL tm nt ps as bo d .done (some .ret)
 |.exit k=>dL tm nt ps as bo d .done (some (.exit k))
def IV:ak->Bool
 |.normal=>true
 |_=>false
def N1.round{E:Env}{H:Hp}{L:Nat}{args:List AV}{Q:AV->Hp->Prop}{tm:PT AV}{nt:Nat}{ps:List Tmp}{as bo:Code}{d:Nat}
  (hg:H.get L=some (dL tm nt ps as bo d .ready none)) (hl:args.length=ps.length) (hp:(ps.all λp=>Nat.blt p nt)=true)
  (h:R1 E (some L) as ⟨eK ps args tm,nt,[]⟩ H λe A1 H1=>e=.normal∧H1.get L=some (dL tm nt ps as bo d .ready none) ∧
   R1 E (some L) bo A1 (H1.mod L (dL tm nt ps as bo d .busy none)) λe A2 H2=>A2.dfr=[]∧H2.get L=some (dL tm nt ps as bo d .busy none)∧Q (.one (.b (IV e))) (H2.mod L (Jk tm nt ps as bo d e))):
  N1 E H (.round L args) Q:=by
 obtain⟨n,e,A1,H1,h1,rfl,h2,k,e2,A2,H2,h3,h4,h5,h6⟩:=h
 refine⟨max n k+1,.one (.b (IV e2)),H2.mod L (Jk tm nt ps as bo d e2),?_,h6⟩
 have a1:=ef (dh E (Nat.le_max_left n k)) as (some L) _ _ _ h1;have a2:=ef (dh E (Nat.le_max_right n k)) bo (some L) _ _ _ h3;show fK (eval E (max n k+1)) L args H=_;unfold fK;rw[hg];have hb:both (Nat.beq (pR args) (pR ps)) (ps.all λp=>Nat.blt p nt)=true:=by
  rw[hp];have:Nat.beq (pR args) (pR ps)=true:=by rw[show pR args=pR ps from hl];exact Nat.beq_refl _
  rw[this];rfl
 show Eng.ifE (both (Nat.beq (pR args) (pR ps)) (ps.all λp=>Nat.blt p nt)) (((eval E (max n k+1)).code (some L) as ⟨eK ps args tm,nt,[]⟩ H).bind (eo (eval E (max n k+1)) L bo)) _=_;rw[hb];have c1:(eval E (max n k+1)).code (some L) as ⟨eK ps args tm,nt,[]⟩ H=.ok [(.normal,A1,H1)]:=a1;show((eval E (max n k+1)).code (some L) as ⟨eK ps args tm,nt,[]⟩ H).bind (eo (eval E (max n k+1)) L bo)=_
 rw[c1];show eo (eval E (max n k+1)) L bo (.normal,A1,H1)=_;unfold eo;simp only[h2];show((eval E (max n k+1)).code (some L) bo A1 (H1.mod L (dL tm nt ps as bo d .busy none))).bind (iL L)=_
 have c2:(eval E (max n k+1)).code (some L) bo A1 (H1.mod L (dL tm nt ps as bo d .busy none))=.ok [(e2,A2,H2)]:=a2;rw[c2];show iL L (e2,A2,H2)=_;unfold iL;simp only[h4,h5];cases e2<;>rfl
structure YB(E:Env)(L:Nat)(n:Nat)(ar:Nat->List AV)(D:Nat->Prop)(σ:Type)where
 J:Nat->σ->Hp->Prop
 F:σ->Hp->Prop
 fp:σ->Nat->Prop
 hJ:∀{i s H H'},J i s H->H.nx≤H'.nx->(∀k,k<H.nx->H'.get k=H.get k)->J i s H'
 hF:∀{s H H'},F s H->H.nx≤H'.nx->(∀k,k<H.nx->H'.get k=H.get k)->F s H'
 hl:∀{i s H k},J i s H->fp s k->k<H.nx∧¬D k
 pass:∀i s H,i<n->J i s H->Zr E (.round L (ar i)) H (fp s) λv H'=>∃b s',v=.one (.b b)∧(b=true->J (i+1) s' H')∧(b=false->F s' H')∧∀k,fp s' k->fp s k∨H.nx≤k
def ItC(E:Env)(g:FuncId)(caps:List (Nat×Nat×Nat×Nat))(n:Nat)(ar:Nat->List AV)(D:Nat->Prop)(H0:Hp):Prop:=
 ∀(σ:Type)(L:Nat)(B:YB E L n ar D σ)(s:σ)(H:Hp),H0.nx≤H.nx->(∀k,k<H0.nx->H.get k=H0.get k)->B.J 0 s H ->
  Con E g (.one (.o (.yl L))::eE caps) H (B.fp s) λ_ H'=>∃s',(B.J n s' H'∨B.F s' H')∧∀k,B.fp s' k->B.fp s k∨H.nx≤k
def C1.YK{E:Env}{f:FuncId}{args:List AV}{H:Hp}{X:Nat->Prop}{Q:AV->Hp->Prop}(hp:E.dQ f args=none)(h:Con E f args H X Q)(hq:E.dZ f args H=none:=by rfl):C1 E f args H λv H'=>Fr X H H'∧Q v H':=by
 obtain⟨n,v,H',h1,h2,h3⟩:=h H.log
 have N5:mQ E (eval E n) f args H=.ok [(v,H')]:=h1;unfold mQ at N5;rw[hp]at N5;have N5:aw (E.dZ f args ⟨H.t,H.nx,H.log⟩) ((eval E n).call f args ⟨H.t,H.nx,H.log⟩) (λx=>.ok [(x.1,(⟨H.t,H.nx,H.log⟩:Hp).mod x.2.1 x.2.2)])=.ok [(v,H')]:=N5;have I8:E.dZ f args ⟨H.t,H.nx,H.log⟩=none:=hq;rw[I8]at N5;exact⟨n,v,H',N5,h2,h3 H'.log⟩
def R1.XN{E:Env}{A:aa}{H:Hp}{Q:ak->aa->Hp->Prop}{f:Operand}{params:Array Tmp}{as bo:Code}{g:FuncId}{caps:List (Nat×Nat×Nat×Nat)}
  (hf:ev A.tm f=.one (.o (.clo g caps))) (hb:ao E.P g=true)
  (h:C1 E g (.one (.o (.yl (H.nx+1)))::eE caps) ((H.new (.oth (.dfr true))).new (dL A.tm A.nt params.toList as bo H.nx .ready none)) λ_ H3=>
   ∃e,H3.get (H.nx+1)=some (Jk A.tm A.nt params.toList as bo H.nx e)∧∀o,Q e ⟨A.tm,A.nt,H.nx::A.dfr⟩ (H3.mod (H.nx+1) o)):
  R1 E none (.rangeFunc f params as bo) A H Q:=by
 obtain⟨n,v,H3,h1,e,h2,h3⟩:=h
 have key:∀o,ea (H.nx+1) ⟨A.tm,A.nt,H.nx::A.dfr⟩ (v,H3)=.ok [(e,⟨A.tm,A.nt,H.nx::A.dfr⟩,H3.mod (H.nx+1) o)]->R1 E none (.rangeFunc f params as bo) A H Q:=λo ho=>by
  refine⟨n,e,⟨A.tm,A.nt,H.nx::A.dfr⟩,H3.mod (H.nx+1) o,?_,h3 o⟩
  show gA E (eval E n) none (opF f) params.toList as bo A H=_;unfold gA;show(match(opF f).ev A.tm with
   |.one (.o (.clo g caps))=>Eng.ifE (ao E.P g) (((eval E n).call g (.one (.o (.yl (H.nx+1)))::eE caps) ((H.new (.oth (.dfr true))).new (dL A.tm A.nt params.toList as bo H.nx .ready none))).bind (ea (H.nx+1) ⟨A.tm,A.nt,H.nx::A.dfr⟩)) (.bad "rangeFunc - no body")
   |_=>.bad "rangeFunc - no function")=_
  have K8:(opF f).ev A.tm=.one (.o (.clo g caps)):=hf;rw[K8];show Eng.ifE (ao E.P g) _ _=_;rw[hb];show((eval E n).call g (.one (.o (.yl (H.nx+1)))::eE caps) ((H.new (.oth (.dfr true))).new (dL A.tm A.nt params.toList as bo H.nx .ready none))).bind (ea (H.nx+1) ⟨A.tm,A.nt,H.nx::A.dfr⟩)=_
  rw[h1];exact ho
 cases e with
 |normal=>exact key _ (by unfold ea;simp only[h2,Jk,dL];rfl)
 |ret=>exact key _ (by unfold ea;simp only[h2,Jk,dL];rfl)
 |exit i=>exact key _ (by unfold ea;simp only[h2,Jk,dL];rfl)
def R1.range{E:Env}{A:aa}{H:Hp}{Q:ak->aa->Hp->Prop}{f:Operand}{params:Array Tmp}{as bo:Code}{g:FuncId}{caps:List (Nat×Nat×Nat×Nat)}{n:Nat}{ar:Nat->List AV}{D:Nat->Prop}{σ:Type}
  (hf:ev A.tm f=.one (.o (.clo g caps))) (hb:ao E.P g=true) (V7:∀args,E.dQ g args=none) (S3:ItC E g caps n ar D H) (hD:∀k,D k->k<H.nx)
  (B8:(params.toList.all λp=>Nat.blt p A.nt)=true) (M8:∀i,i<n->(ar i).length=params.toList.length)
  (J:Nat->σ->Hp->Prop) (F:ak->σ->Hp->Prop) (fp:σ->Nat->Prop)
  (hJ:∀{i s H1 H2},J i s H1->Sm (H.nx+1) H1 H2->J i s H2) (hF:∀{e s H1 H2},F e s H1->Sm (H.nx+1) H1 H2->F e s H2)
  (hl:∀{i s H1 k},J i s H1->fp s k->k<H1.nx∧k≠H.nx∧k≠H.nx+1∧¬D k)
  (s0:σ) (h0:∀H1,Gr H H1->H1.nx=H.nx+2->J 0 s0 H1)
  (body:∀i s H1,i<n->J i s H1->H.nx+2≤H1.nx->R1 E (some (H.nx+1)) as ⟨eK params.toList (ar i) A.tm,A.nt,[]⟩ H1 λe A1 H2=>e=.normal∧Fr (fp s) H1 H2 ∧
   ∀H3,H3.nx=H2.nx->Sm (H.nx+1) H2 H3->R1 E (some (H.nx+1)) bo A1 H3 λe A2 H4=>A2.dfr=[]∧Fr (λk=>fp s k∨H1.nx≤k) H3 H4∧∃s',(e=.normal->J (i+1) s' H4)∧(e≠.normal->F e s' H4)∧∀k,fp s' k->fp s k∨H1.nx≤k)
  (hn:∀s' H5,J n s' H5->H.nx+2≤H5.nx->H5.get H.nx=some (.oth (.dfr true))->Fr (fp s0) H H5->(∀k,fp s' k->fp s0 k∨H.nx≤k)->Q .normal ⟨A.tm,A.nt,H.nx::A.dfr⟩ H5)
  (hx:∀e s' H5,e≠.normal->F e s' H5->H.nx+2≤H5.nx->H5.get H.nx=some (.oth (.dfr true))->Fr (fp s0) H H5->(∀k,fp s' k->fp s0 k∨H.nx≤k)->Q e ⟨A.tm,A.nt,H.nx::A.dfr⟩ H5)
  (hq:∀args H,E.dZ g args H=none:=by intro _ _;rfl):
  R1 E none (.rangeFunc f params as bo) A H Q:=by
 have gL:Gr H ((H.new (.oth (.dfr true))).new (dL A.tm A.nt params.toList as bo H.nx .ready none)):=((Fr.refl _).new _).new _;have nL:((H.new (.oth (.dfr true))).new (dL A.tm A.nt params.toList as bo H.nx .ready none)).nx=H.nx+2:=rfl;have rL:((H.new (.oth (.dfr true))).new (dL A.tm A.nt params.toList as bo H.nx .ready none)).get (H.nx+1)=some (dL A.tm A.nt params.toList as bo H.nx .ready none):=aB rfl;have rd:((H.new (.oth (.dfr true))).new (dL A.tm A.nt params.toList as bo H.nx .ready none)).get H.nx=some (.oth (.dfr true)):=by
  rw[aS (by rw[ti];omega),aB rfl]
 let B:YB E (H.nx+1) n ar D (ak×σ):=
  { J:=λi s H1=>J i s.2 H1∧H1.get (H.nx+1)=some (dL A.tm A.nt params.toList as bo H.nx .ready none)∧H1.get H.nx=some (.oth (.dfr true))∧H.nx+2≤H1.nx
    F:=λs H1=>s.1≠.normal∧F s.1 s.2 H1∧H1.get (H.nx+1)=some (Jk A.tm A.nt params.toList as bo H.nx s.1)∧H1.get H.nx=some (.oth (.dfr true))∧H.nx+2≤H1.nx
    fp:=λs k=>fp s.2 k∨k=H.nx+1
    hJ:=λ{i s H1 H2}⟨h1,h2,h3,h4⟩hn hg=>⟨hJ h1 ⟨hn,λk hk _=>hg k hk⟩,by rw[hg _ (by omega)];exact h2,by rw[hg _ (by omega)];exact h3,zA2 h4 hn⟩
    hF:=λ{s H1 H2}⟨h0,h1,h2,h3,h4⟩hn hg=>⟨h0,hF h1 ⟨hn,λk hk _=>hg k hk⟩,by rw[hg _ (by omega)];exact h2,by rw[hg _ (by omega)];exact h3,zA2 h4 hn⟩
    hl:=λ{i s H1 k}⟨h1,h2,h3,h4⟩hk=>by
     rcases hk with hk|rfl
     ·exact⟨(hl h1 hk).1,(hl h1 hk).2.2.2⟩
     exact⟨by omega,λh=>by have:=hD _ h;omega⟩
    pass:=λi s H1 hi⟨h1,h2,h3,h4⟩lg=>by
     have s1:Sm (H.nx+1) H1 ⟨H1.t,H1.nx,lg⟩:=Sm.same rfl rfl;have j1:=hJ h1 s1;have g2:(⟨H1.t,H1.nx,lg⟩:Hp).get (H.nx+1)=some (dL A.tm A.nt params.toList as bo H.nx .ready none):=h2;have g3:(⟨H1.t,H1.nx,lg⟩:Hp).get H.nx=some (.oth (.dfr true)):=h3;have n4:H.nx+2≤(⟨H1.t,H1.nx,lg⟩:Hp).nx:=h4;have e0:H1.nx=(⟨H1.t,H1.nx,lg⟩:Hp).nx:=rfl;rw[e0];generalize(⟨H1.t,H1.nx,lg⟩:Hp)=H1 at j1 g2 g3 n4 ⊢
     have nfL:¬fp s.2 (H.nx+1):=λh=>(hl j1 h).2.2.1 rfl;have nfd:¬fp s.2 H.nx:=λh=>(hl j1 h).2.1 rfl;refine N1.round g2 (M8 i hi) B8 ((body i s.2 H1 hi j1 n4).mono λe A1 Ha⟨he,hfa,hb2⟩=>⟨he,(hfa.get _ (by omega) nfL).trans g2,?_⟩);have na:=hfa.nx;refine(hb2 (Ha.mod (H.nx+1) (dL A.tm A.nt params.toList as bo H.nx .busy none)) rfl (Sm.mod _ _)).mono λe2 A2 H4⟨B0,hf4,s',hj,hf,Y5⟩=>?_
     have n5:H1.nx≤H4.nx:=zA2 na hf4.nx;have gB:H4.get (H.nx+1)=some (dL A.tm A.nt params.toList as bo H.nx .busy none):=by
      rw[hf4.get _ (by rw[Lc];omega) (λh=>h.elim nfL λh=>by omega),an rfl]
     have gD:H4.get H.nx=some (.oth (.dfr true)):=by
      rw[hf4.get _ (by rw[Lc];omega) (λh=>h.elim nfd λh=>by omega),au (by omega),hfa.get _ (by omega) nfd,g3]
     refine⟨B0,gB,?_,λlg'=>⟨IV e2,(e2,s'),rfl,λhb=>?_,λhb=>?_,λk hk=>?_⟩⟩
     ·have f1:Fr (λk=>fp s.2 k∨k=H.nx+1) H1 (Ha.mod (H.nx+1) (dL A.tm A.nt params.toList as bo H.nx .busy none)):=(hfa.mono λ_ h=>.inl h).mod _ (.inr (.inr rfl));exact(f1.then hf4 λk hk=>hk.elim (λh=>.inr (.inl h)) λh=>.inl h).mod _ (.inr (.inr rfl))
     ·have he:e2=.normal:=by cases e2<;>first|rfl|cases hb
      subst he;exact⟨hJ (hj rfl) ((Sm.mod _ _).trans (Sm.same rfl rfl)),an rfl,by show(H4.mod _ _).get _=_;rw[au (by omega)];exact gD,by show H.nx+2≤H4.nx;omega⟩
     ·have he:e2≠.normal:=λh=>by subst h;cases hb
      exact⟨he,hF (hf he) ((Sm.mod _ _).trans (Sm.same rfl rfl)),an rfl,by show(H4.mod _ _).get _=_;rw[au (by omega)];exact gD,by show H.nx+2≤H4.nx;omega⟩
     rcases hk with hk|hk
     ·rcases Y5 k hk with h|h
      ·exact .inl (.inl h)
      exact .inr h
     exact .inl (.inr hk) }
 refine R1.XN hf hb ?_;have hcon:=S3 (ak×σ) (H.nx+1) B (.normal,s0) _ gL.nx (λk hk=>gL.get k hk zB2) ⟨h0 _ gL nL,rL,rd,Nat.le_of_eq nL.symm⟩;refine(C1.YK (V7 _) hcon (hq _ _)).mono λv H3⟨j_,s',hjf,Y5⟩=>?_
 have hfr':Fr (λk=>fp s0 k∨k=H.nx+1) _ H3:=j_;have f1:∀o,Fr (fp s0) H (H3.mod (H.nx+1) o):=λo=>(gL.none.then hfr' λk hk=>hk.elim .inr λh=>.inl (by omega)).mod _ (.inl (by omega));have f2:∀k,fp s'.2 k->fp s0 k∨H.nx≤k:=λk hk=>by
  rcases Y5 k (.inl hk)with(h|h)|h
  ·exact .inl h
  ·exact .inr (by omega)
  exact .inr (by have:H.nx+2≤k:=h;omega)
 rcases hjf with⟨j1,j2,j3,j4⟩|⟨j0,j1,j2,j3,j4⟩
 ·exact⟨.normal,j2,λo=>hn _ _ (hJ j1 (Sm.mod _ _)) j4 (by rw[au (by omega)];exact j3) (f1 o) f2⟩
 exact⟨s'.1,j2,λo=>hx _ _ _ j0 (hF j1 (Sm.mod _ _)) j4 (by rw[au (by omega)];exact j3) (f1 o) f2⟩
section
variable{st:Bool}{E:Env}{A:aa}{H:Hp}{next:aa->Hp->Prop}{d:Option Tmp}{ty:TypeId}{pos:String}{af:Array Edge}{gd:Option (Nat×Bool)}
def lkN(next:aa->Hp->Prop)(A:aa)(d:Option Tmp)(P:Program)(H:Hp)(o:Option (TypeId×TypeId))(m k:AV)(ok:Bool):Prop:=fU o λp=>fU (ay P p.2) λz=>vN next A d (aX P H p.1 (ofValue z) m k ok)
theorem Em{P:Program}{kt et:TypeId}{m k:AV}{ok:Bool}:lkN next A d P H (some (kt,et)) m k ok=fU (ay P et) λz=>vN next A d (aX P H kt (ofValue z) m k ok):=rfl
def upN(next:aa->Hp->Prop)(A:aa)(d:Option Tmp)(P:Program)(H:Hp)(o:Option (TypeId×TypeId))(m k x:AV):Prop:=fU o λp=>vN next A d (aU P H p.1 m k x)
theorem Ek{P:Program}{kt et:TypeId}{m k x:AV}:upN next A d P H (some (kt,et)) m k x=vN next A d (aU P H kt m k x):=rfl
theorem zP{t:TypeId}{m k:Operand}{ok:Bool}:SK st E ⟨d,.lookup t m k ok,ty,pos,af,gd⟩ A H next=(ltV (ev A.tm m) H.nx∧lkN next A d E.P H (fW E.P t) (ev A.tm m) (ev A.tm k) ok):=by
 show(_∧dE _ ((ndF (fW E.P t) _ _).run A.tm H))=_
 rw[bT];unfold lkN;cases fW E.P t with
 |none=>rfl
 |some p=>
  show(_∧dE _ ((ndF (ay E.P p.2) _ _).run A.tm H))=_
  rw[bT];rfl
theorem qD{t:TypeId}{m k x:Operand}:SK st E ⟨d,.mapUpdate t m k x,ty,pos,af,gd⟩ A H next=(ltV (ev A.tm m) H.nx∧upN next A d E.P H (fW E.P t) (ev A.tm m) (ev A.tm k) (ev A.tm x)):=by
 show(_∧dE _ ((ndF (fW E.P t) _ _).run A.tm H))=_
 rw[bT];rfl
theorem Uc{id n:Nat}:ltV (.one (.o (.mp id))) n=(id<n):=propext ⟨λh=>h id (List.mem_singleton.2 rfl),λh i hi=>by rw[List.mem_singleton.1 hi];exact h⟩
end
def jy:Nat->List (List UInt8×AC)->List bu
 |_,[]=>[]
 |n,(s,v)::l=>⟨.one (.o (.str s)),.one v,n⟩::jy (n+1) l
def gW(l:List (List UInt8×AC)):aJ:=.oth (.map (jy 0 l) l.length)
def atK(l:List (List UInt8×AC))(s:List UInt8):Option AC:=
 match l with
 |[]=>none
 |(t,v)::l=>if t=s then some v else atK l s
def GH:∀(n:Nat)(l:List (List UInt8×AC)),(jy n l).length=l.length
 |_,[]=>rfl
 |n,(s,v)::l=>congrArg (·+1) (GH (n+1) l)
def Dw:∀(n:Nat)(l:List (List UInt8×AC))(s:List UInt8)(v:AC),jy n (l++[(s,v)])=jy n l++[⟨.one (.o (.str s)),.one v,n+l.length⟩]
 |n,[],s,v=>rfl
 |n,(t,w)::l,s,v=>by
  show _::jy (n+1) (l++[(s,v)])=_::(jy (n+1) l++_);rw[Dw (n+1) l s v];have:n+1+l.length=n+(l.length+1):=by omega
  rw[this];rfl
def zb{P:Program}{kt:TypeId}(h:bf P kt=0)(s t:List UInt8):ib P kt (.one (.o (.str s))) (.one (.o (.str t)))=some (s==t):=by
 unfold ib;rw[h,<-fF];rfl
def vZ{P:Program}{kt:TypeId}(h:bf P kt=0)(s:List UInt8):∀(n:Nat)(l:List (List UInt8×AC)),∃e,iV P kt (.one (.o (.str s))) (jy n l)=some e∧e.map bu.val=(atK l s).map AV.one
 |_,[]=>⟨none,rfl,rfl⟩
 |n,(t,v)::l=>by
  obtain⟨e,h1,h2⟩:=vZ h s (n+1) l
  have e0:iV P kt (.one (.o (.str s))) (jy n ((t,v)::l))=aw (ib P kt (.one (.o (.str s))) (.one (.o (.str t)))) none λb=>ifE b (some (some ⟨.one (.o (.str t)),.one v,n⟩)) (iV P kt (.one (.o (.str s))) (jy (n+1) l)):=rfl;rw[e0,zb h];by_cases Y2:s=t
  ·subst Y2;refine⟨some ⟨.one (.o (.str s)),.one v,n⟩,?_,?_⟩
   ·show ifE (s==s) _ _=_;rw[beq_self_eq_true];rfl
   show _=(if s=s then some v else atK l s).map AV.one;rw[zB0 rfl];rfl
  refine⟨e,?_,?_⟩
  ·show ifE (s==t) _ _=_;rw[zB5 Y2];exact h1
  show _=(if t=s then some v else atK l s).map AV.one;rw[zB1 (λh=>Y2 h.symm)];exact h2
def zu{P:Program}{b:Bool}{kt:TypeId}(h:bf P kt=0)(s:List UInt8):fq P b kt (.one (.o (.str s)))=some ():=by
 unfold fq;rw[h];rfl
def vP{P:Program}{H:Hp}{kt:TypeId}{z:AV}{id:Nat}{s:List UInt8}{l:List (List UInt8×AC)}{ok:Bool}(h:bf P kt=0)(hg:H.get id=some (gW l)):
  aX P H kt z (.one (.o (.mp id))) (.one (.o (.str s))) ok=(match atK l s with|some v=>aV H ok (.one v) true|none=>aV H ok z false):=by
 obtain⟨e,h1,h2⟩:=vZ h s 0 l
 unfold aX;have Y1:H.get id=some (.oth (.map (jy 0 l) l.length)):=hg;simp only[Y1,zu h];show(match iV P kt (.one (.o (.str s))) (jy 0 l)with|some (some e)=>aV H ok e.val true|some none=>aV H ok z false|none=>.bad "lookup - keys")=_
 rw[h1];cases e with
 |none=>
  cases ha:atK l s with
  |none=>rfl
  |some v=>rw[ha]at h2;cases h2
 |some e=>
  cases ha:atK l s with
  |none=>rw[ha]at h2;cases h2
  |some v=>
   rw[ha]at h2;have:e.val=.one v:=Option.some.inj h2;show aV H ok e.val true=aV H ok (.one v) true;rw[this]
def zA{H:Hp}{v:AV}{b:Bool}:aV H false v b=.val v H:=rfl
def zC{H:Hp}{c:AC}{b:Bool}:aV H true (.one c) b=.val (.tup [(false,[c]),(false,[.b b])]) H:=rfl
def Av{P:Program}{kt:TypeId}(h:bf P kt=0)(s:List UInt8)(x:AV):∀(n:Nat)(l:List (List UInt8×AC)),atK l s=none->mR P kt (.one (.o (.str s))) x (jy n l)=some (false,jy n l)
 |_,[],_=>rfl
 |n,(t,v)::l,ha=>by
  have hts:¬t=s:=λe=>by
   unfold atK at ha;rw[zB0 e]at ha;cases ha
  have ha2:atK l s=none:=by
   unfold atK at ha;rwa [zB1 hts]at ha
  have ih:=Av h s x (n+1) l ha2;have e0:mR P kt (.one (.o (.str s))) x (jy n ((t,v)::l))=aw (ib P kt (.one (.o (.str s))) (.one (.o (.str t)))) none λb=>ifE b (ifE (sameKey P kt (.one (.o (.str t))) (.one (.o (.str s)))) (some (true,⟨.one (.o (.str s)),x,n⟩::jy (n+1) l)) none) (aw (mR P kt (.one (.o (.str s))) x (jy (n+1) l)) none λr=>some (r.1,⟨.one (.o (.str t)),.one v,n⟩::r.2)):=rfl;rw[e0,zb h];show ifE (s==t) _ _=_;rw[zB5 (λh=>hts h.symm),ih];rfl
def wX{P:Program}{H:Hp}{kt:TypeId}{id:Nat}{s:List UInt8}{l:List (List UInt8×AC)}{x:AC}(h:bf P kt=0)(hg:H.get id=some (gW l))(hn:atK l s=none):
  aU P H kt (.one (.o (.mp id))) (.one (.o (.str s))) (.one x)=.val aD (H.mod id (gW (l++[(s,x)]))):=by
 unfold aU;have Y1:H.get id=some (.oth (.map (jy 0 l) l.length)):=hg;simp only[Y1,zu h];show nd (mR P kt (.one (.o (.str s))) (.one x) (jy 0 l)) _ _=_;rw[Av h s (.one x) 0 l hn];show ab.val aD (H.mod id (.oth (.map (jy 0 l++[⟨.one (.o (.str s)),.one x,l.length⟩]) (l.length+1))))=_;unfold gW;rw[Dw,List.length_append,Nat.zero_add];rfl
def Tt{H:Hp}{id:Nat}{l:List (List UInt8×AC)}(hg:H.get id=some (gW l)):cW H 2 (.one (.o (.mp id)))=.val (.one (.i .i64 (l.length:Int))) H:=by
 have e:cW H 2 (.one (.o (.mp id)))=dK H (.one (.o (.mp id))):=rfl;rw[e];unfold dK;have Y1:H.get id=some (.oth (.map (jy 0 l) l.length)):=hg;simp only[Y1];rw[GH];rfl
def tk{k:IntKind}{n:Int}:ofValue (.int k n)=.one (.i k n):=rfl
def pV{b:Bool}:ofValue (.bool b)=.one (.b b):=rfl
def Al{α β:Type}(R:β->α->Prop):List β->List α->Prop
 |[],[]=>True
 |c::cs,x::xs=>R c x∧Al R cs xs
 |_,_=>False
def Al.len{α β:Type}{R:β->α->Prop}:∀{cs:List β}{xs:List α},Al R cs xs->cs.length=xs.length
 |[],[],_=>rfl
 |_::_,_::_,h=>congrArg (·+1) (Al.len h.2)
 |[],_::_,h=>h.elim
 |_::_,[],h=>h.elim
def Al.mono{α β:Type}{R R':β->α->Prop}(hr:∀c x,R c x->R' c x):∀{cs:List β}{xs:List α},Al R cs xs->Al R' cs xs
 |[],[],_=>trivial
 |_::_,_::_,h=>⟨hr _ _ h.1,Al.mono hr h.2⟩
 |[],_::_,h=>h.elim
 |_::_,[],h=>h.elim
def Al.at{α β:Type}{R:β->α->Prop}:∀{cs:List β}{xs:List α}{i:Nat}{x:α},Al R cs xs->xs[i]?=some x->∃c,cs[i]?=some c∧R c x
 |[],[],_,_,_,h=>by simp at h
 |c::cs,y::xs,0,x,h,hx=>by
  simp only[List.getElem?_cons_zero,Option.some.injEq]at hx;subst hx;exact⟨c,rfl,h.1⟩
 |c::cs,y::xs,i+1,x,h,hx=>by
  rw[List.getElem?_cons_succ]at hx ⊢;exact Al.at h.2 hx
 |[],_::_,_,_,h,_=>h.elim
 |_::_,[],_,_,h,_=>h.elim
def Al.app{α β:Type}{R:β->α->Prop}:∀{cs:List β}{xs:List α}{c:β}{x:α},Al R cs xs->R c x->Al R (cs++[c]) (xs++[x])
 |[],[],_,_,_,h=>⟨h,trivial⟩
 |_::_,_::_,_,_,h,k=>⟨h.1,Al.app h.2 k⟩
 |[],_::_,_,_,h,_=>h.elim
 |_::_,[],_,_,h,_=>h.elim
def SlR{α:Type}(R:Hp->List AC->α->Prop)(sz:Nat)(H:Hp)(v:AC)(l:List α):Prop:=
 ∃css:List (List AC),SlC H v sz l.length (css.flatMap id)∧Al (λc x=>c.length=sz∧R H c x) css l
def SlR.dG{α:Type}{R:Hp->List AC->α->Prop}{sz:Nat}{H H':Hp}{v:AC}{l:List α}(h:SlR R sz H v l)(hn:H.nx≤H'.nx)(hg:∀i,i<H.nx->H'.get i=H.get i)(hr:∀c x,R H c x->R H' c x):SlR R sz H' v l:=by
 obtain⟨css,h1,h2⟩:=h
 exact⟨css,h1.dG hn hg,h2.mono λc x h=>⟨h.1,hr c x h.2⟩⟩
def SlR.len{α:Type}{R:Hp->List AC->α->Prop}{sz:Nat}{H:Hp}{v:AC}{l:List α}(h:SlR R sz H v l):cW H 1 (.one v)=.val (.one (.i .i64 (l.length:Int))) H:=let ⟨_,h1,_⟩:=h;h1.len
def SlR.lt{α:Type}{R:Hp->List AC->α->Prop}{sz:Nat}{H:Hp}{v:AC}{l:List α}(h:SlR R sz H v l):ltV (.one v) H.nx:=let ⟨_,h1,_⟩:=h;qj h1
def AI{sz:Nat}:∀{css:List (List AC)},(∀c∈css,c.length=sz)->(css.flatMap id).length=css.length*sz
 |[],_=>by simp
 |c::css,h=>by
  rw[List.flatMap_cons,List.length_append,AI λx hx=>h x (List.mem_cons_of_mem _ hx),List.length_cons,Nat.succ_mul];have:(id c:List AC).length=sz:=h c (List.mem_cons_self ..);omega
def vD{sz:Nat}:∀{css:List (List AC)}{i:Nat}{c:List AC},(∀c∈css,c.length=sz)->css[i]?=some c->((css.flatMap id).drop (i*sz)).take sz=c
 |[],_,_,_,h=>by simp at h
 |d::css,0,c,hl,h=>by
  simp only[List.getElem?_cons_zero,Option.some.injEq]at h;subst h;have:d.length=sz:=hl d (List.mem_cons_self ..);rw[Nat.zero_mul,List.drop_zero,List.flatMap_cons];show(d++_).take sz=d
  rw[List.take_append_of_le_length (by omega),List.take_of_length_le (by omega)]
 |d::css,i+1,c,hl,h=>by
  rw[List.getElem?_cons_succ]at h;have hd:d.length=sz:=hl d (List.mem_cons_self ..);rw[List.flatMap_cons,Nat.succ_mul];show((d++css.flatMap id).drop (i*sz+sz)).take sz=c
  rw[List.drop_append,hd,List.drop_of_length_le (by omega),List.nil_append];have:i*sz+sz-sz=i*sz:=by omega
  rw[this];exact vD (λx hx=>hl x (List.mem_cons_of_mem _ hx)) h
def Al.lens{α:Type}{R:List AC->α->Prop}{sz:Nat}:∀{css:List (List AC)}{xs:List α},Al (λc x=>c.length=sz∧R c x) css xs->∀c∈css,c.length=sz
 |[],[],_,_,h=>by cases h
 |_::_,_::_,h,c,hc=>by
  rcases List.mem_cons.1 hc with rfl|hc
  ·exact h.1.1
  exact Al.lens h.2 c hc
 |[],_::_,h,_,_=>h.elim
 |_::_,[],h,_,_=>h.elim
def SlR.open{α:Type}{R:Hp->List AC->α->Prop}{sz:Nat}{H:Hp}{v:AC}{l:List α}(h:SlR R sz H v l)(hn:0<l.length):∃id g off cells,v=.o (.sl id g off l.length sz)∧id<H.nx∧rowOf (H.get id) g=some cells ∧
  ∀(i:Nat)(x:α),l[i]?=some x->off+i*sz+sz≤cells.length∧∃c,(cells.drop (off+i*sz)).take sz=c∧c.length=sz∧R H c x:=by
 obtain⟨css,h1,h2⟩:=h
 obtain⟨id,g,off,e1,hid,hr⟩:=SlC.pos h1 hn
 have E3:=hr;obtain⟨cells,h3,h6,h7⟩:=hr
 refine⟨id,g,off,cells,e1,hid,h3,λi x hx=>?_⟩
 obtain⟨c,hc,J1,hR⟩:=h2.at hx
 have C0:i<l.length:=by
  rcases Nat.lt_or_ge i l.length with h|h
  ·exact h
  rw[List.getElem?_eq_none h]at hx;cases hx
 have hmul:(i+1)*sz≤l.length*sz:=Nat.mul_le_mul_right _ C0;rw[Nat.succ_mul]at hmul;obtain⟨cells',k3,k6,k7⟩:=E3.part (i*sz) sz hmul
 rw[h3]at k3;cases k3
 refine⟨k6,c,?_,J1,hR⟩
 rw[k7];exact vD h2.lens hc
def uz{P:Program}{h:Hp}{t e:TypeId}{sz by_ n:Nat}{z:Value}{x:AV}{c:List AC}(he:bt P t=some (e,sz))(hb:cK P e=some by_)(hz:ay P e=some z)(B2:(ofValue z).cells.length=sz)(L1:sz≠0)
  (hs:jt h sz x=some (n,c)) (h1:n≤140737488355328) (h2:n*by_≤140737488355328):bh P h t (.one (.o .nilS)) x=if n=0 then .val (.one (.o .nilS)) h else .val (.one (.o (.sl h.nx 0 0 n sz))) (h.new (.arr c e 0 0)):=by
 have e1:Nat.beq sz 0=false:=by
  cases h:Nat.beq sz 0 with
  |false=>rfl
  |true=>exact absurd (zA3 h) L1
 have e3:both (!Nat.beq sz 0) (Nat.beq (bq (ofValue z).cells) sz)=true:=by rw[e1,bj,B2,Nat.beq_refl];rfl
 have e4:both (Nat.ble n 140737488355328) (Nat.ble (Nat.mul n by_) 140737488355328)=true:=by
  rw[zA5 h1];exact zA5 h2
 unfold bh;simp only[he,hb,hz,nd,e3,aA,hs];show Eng.ifE (Nat.beq n 0) (.val (.one (.o .nilS)) h) (aA (both (Nat.ble n 140737488355328) (Nat.ble (Nat.mul n by_) 140737488355328)) "append - too much" (.val (.one (.o (.sl h.nx 0 0 n sz))) (h.new (.arr c e 0 0))))=_
 rw[e4];by_cases hn:n=0
 ·subst hn;rfl
 have:Nat.beq n 0=false:=by
  cases h:Nat.beq n 0 with
  |false=>rfl
  |true=>exact absurd (zA3 h) hn
 rw[this,zB1 hn];rfl
def fI{P:Program}{H:Hp}{t e:TypeId}{sz by_ n:Nat}{z:Value}{v:AC}{cells:List AC}{r:Option Nat}(he:bt P t=some (e,sz))(hb:cK P e=some by_)(hz:ay P e=some z)(B2:(ofValue z).cells.length=sz)(L1:sz≠0)
  (ho:dg H v e sz n cells r) (c0:List AC) (O_:c0.length=sz) (hL:n+1≤140737488355328∧(n+1)*by_≤140737488355328):
  ltV (.one v) (H.new (.arr c0 e 0 0)).nx∧∃v' H' r',bh P (H.new (.arr c0 e 0 0)) t (.one v) (.one (.o (.sl H.nx 0 0 1 sz)))=.val (.one v') H' ∧
   dg H' v' e sz (n+1) (cells++c0) (some r')∧Fr (λi=>r=some i) H H'∧(r=some r'∨H.nx≤r'):=by
 have hown3:=ho.fr ((Fr.refl _:Gr _ _).new (.arr c0 e 0 0)) λ_ _ h=>h;obtain⟨v5,H5,r5,Q2,how5,hf5,hr5⟩:=wy (P:=P) (t:=t) (H:=H.new (.arr c0 e 0 0)) (x:=.one (.o (.sl H.nx 0 0 1 sz))) (k:=1) (c:=c0) he hb hz B2 L1 hown3
  (by rw[sH (cells:=c0) (by rw[aB rfl];rfl) (by omega)];simp only[List.drop_zero,Nat.one_mul];rw[List.take_of_length_le (by omega)]) (by decide) (by rw[O_,Nat.one_mul]) hL.1 hL.2
 refine⟨hown3.lt,v5,H5,r5,Q2,how5,?_,?_⟩
 ·exact((Fr.refl _:Gr _ _).new (.arr c0 e 0 0)).none.then hf5 λq hq=>.inr hq
 rcases hr5 with h|⟨_,h⟩
 ·exact .inl h
 right;rw[h,ti];omega
def ri{tm:PT AV}:ev tm (.const (.pointer none))=.one (.o .nilP):=rfl
def LZ{tm:PT AV}:ev tm (.const (.map none))=.one (.o .nilM):=rfl
def JX{tm:PT AV}:ev tm (.const .nilFunc)=.one (.o .oJ):=rfl
def ql{H:Hp}{id g off lim:Nat}:ga H (.one (.o (.ptr id g off lim)))=.val (.one (.o (.ptr id g off lim))) H:=rfl
def tg{H:Hp}{id g off lim:Nat}{alt:ab}{f:BF}:bp H 0 .eql f (.one (.o (.ptr id g off lim))) (.one (.o .nilP)) alt=.val (.one (.b false)) H:=rfl
def Je{H:Hp}{id:Nat}{alt:ab}{f:BF}:bp H 2 .eql f (.one (.o (.mp id))) (.one (.o .nilM)) alt=.val (.one (.b false)) H:=rfl
def SI{H:Hp}{alt:ab}{f:BF}:bp H 0 .eql f (.one (.o .nilP)) (.one (.o .nilP)) alt=alt:=rfl
def Uu{H:Hp}{alt:ab}{f:BF}:bp H 2 .eql f (.one (.o .nilM)) (.one (.o .nilM)) alt=alt:=rfl
def Sz(r:Bool)(H:Hp)(alt:ab)(x y:AV):ab:=
 match x,y with
 |.one (.o .nilP),.one (.o .nilP)=>.val (.one (.b r)) H
 |_,_=>alt
def VL{r:Bool}{H:Hp}{alt:ab}:Sz r H alt (.one (.o .nilP)) (.one (.o .nilP))=.val (.one (.b r)) H:=rfl
def Iv{P:Program}{tm:PT AV}{H:Hp}{d:Option Tmp}{t c:TypeId}{e:TypeId}{x y:Operand}{ty:TypeId}{pos:String}{af:Array Edge}{g:Option (Nat×Bool)}(h:P.underlying t=some (.pointer e)):
  aq P tm H ⟨d,.binOp .eql t x y c,ty,pos,af,g⟩=Sz true H (bH P tm H ⟨d,.binOp .eql t x y c,ty,pos,af,g⟩) (ev tm x) (ev tm y):=by
 unfold Sz;split
 ·rename_i hx hy
  have vx:(ev tm x).val?=some (.pointer none):=by rw[hx];rfl
  have vy:(ev tm y).val?=some (.pointer none):=by rw[hy];rfl
  have dx:bk (ev tm x)=.pointer none:=by unfold bk;rw[vx]
  have dy:bk (ev tm y)=.pointer none:=by unfold bk;rw[vy]
  unfold aq;have e1:((⟨d,.binOp .eql t x y c,ty,pos,af,g⟩:Oper).op.operands.toList.all λx=>(ev tm x).val?.isSome)=true:=by
   show([x,y].all λx=>(ev tm x).val?.isSome)=true
   simp only[List.all_cons,List.all_nil,vx,vy];rfl
  rw[e1];have e2:ax P (execOp (λx=>bk (ev tm x)) ⟨d,.binOp .eql t x y c,ty,pos,af,g⟩)=some (.value (.bool true)):=by
   show ax P (Sem.bind (Sem.bind (eqGuard .eql t x y (bk (ev tm x)) (bk (ev tm y))) λ_=>binOp .eql t (bk (ev tm x)) (bk (ev tm y))) λv=>Sem.pure (Next.value v))=_;rw[dx,dy,aQ,aQ];have hg:eqGuard .eql t x y (.pointer none) (.pointer none)=pure ():=rfl;rw[hg];show((ax P (Sem.bind (Op.equalIn 10000 t (.pointer none) (.pointer none)) λr=>Sem.pure (Value.bool r)))).bind _=_
   have he:ax P (Op.equalIn 10000 t (.pointer none) (.pointer none))=some true:=by
    unfold Op.equalIn;rw[bc,bK h];rfl
   rw[aQ,he];rfl
  rw[e2];rfl
 rfl
def Tm(r:Bool)(H:Hp)(alt:ab)(x y:AV):ab:=
 match x,y with
 |.one (.o .nilM),.one (.o .nilM)=>.val (.one (.b r)) H
 |_,_=>alt
def Vx{r:Bool}{H:Hp}{alt:ab}:Tm r H alt (.one (.o .nilM)) (.one (.o .nilM))=.val (.one (.b r)) H:=rfl
def JP{P:Program}{tm:PT AV}{H:Hp}{d:Option Tmp}{t c:TypeId}{kt et:TypeId}{x y:Operand}{ty:TypeId}{pos:String}{af:Array Edge}{g:Option (Nat×Bool)}(h:P.underlying t=some (.map kt et)):
  aq P tm H ⟨d,.binOp .eql t x y c,ty,pos,af,g⟩=Tm true H (bH P tm H ⟨d,.binOp .eql t x y c,ty,pos,af,g⟩) (ev tm x) (ev tm y):=by
 unfold Tm;split
 ·rename_i hx hy
  have vx:(ev tm x).val?=some (.map none):=by rw[hx];rfl
  have vy:(ev tm y).val?=some (.map none):=by rw[hy];rfl
  have dx:bk (ev tm x)=.map none:=by unfold bk;rw[vx]
  have dy:bk (ev tm y)=.map none:=by unfold bk;rw[vy]
  unfold aq;have e1:((⟨d,.binOp .eql t x y c,ty,pos,af,g⟩:Oper).op.operands.toList.all λx=>(ev tm x).val?.isSome)=true:=by
   show([x,y].all λx=>(ev tm x).val?.isSome)=true
   simp only[List.all_cons,List.all_nil,vx,vy];rfl
  rw[e1];have e2:ax P (execOp (λx=>bk (ev tm x)) ⟨d,.binOp .eql t x y c,ty,pos,af,g⟩)=some (.value (.bool true)):=by
   show ax P (Sem.bind (Sem.bind (eqGuard .eql t x y (bk (ev tm x)) (bk (ev tm y))) λ_=>binOp .eql t (bk (ev tm x)) (bk (ev tm y))) λv=>Sem.pure (Next.value v))=_;rw[dx,dy,aQ,aQ];have hg:eqGuard .eql t x y (.map none) (.map none)=pure ():=rfl;rw[hg];show((ax P (Sem.bind (Op.equalIn 10000 t (.map none) (.map none)) λr=>Sem.pure (Value.bool r)))).bind _=_
   have he:ax P (Op.equalIn 10000 t (.map none) (.map none))=some true:=by
    unfold Op.equalIn;rw[bc,bK h];rfl
   rw[aQ,he];rfl
  rw[e2];rfl
 rfl
open Go Go.ChangeShapes Go.WideShapes
def eh(W:World)(xs:List (Option iM)):Prop:=∀(i:Nat)(x:iM),(xs[i]?).join=some x->oX (iX xs) W x.cells x.p
def kQ(W:World):Prop:=∃(b:Nat)(c:Array Value)(e:TypeId)(f:Nat×Nat),W.heap[b]?=some (.cells c e f)
def jX(xs ys:List (Option iM)):Sub (iX xs) (iX (xs++ys)):=by
 intro i g p h;unfold iX at h ⊢;split at h
 ·rename_i hg
  rw[zB0 hg];by_cases hi:i<xs.length
  ·rw[List.getElem?_append_left hi];exact h
  rw[List.getElem?_eq_none (by omega)]at h;cases h
 cases h
def jv(xs ys:List (Option iM)):Gr (lM xs) (lM (xs++ys))where
 nx:=by show xs.length≤(xs++ys).length;simp
 get:=λi hi _=>by
  have hi':i<xs.length:=hi;rw[jR,jR,List.getElem?_append_left hi']
 log:=⟨[],rfl,λ_ h=>by cases h⟩
def oX.sub{β β':Pl}{W:World}{cells:List AC}{p:Place}(hs:Sub β β')(h:oX β W cells p):oX β' W cells p:=by
 obtain⟨c,e,f,h1,h2,h3,h4,h5⟩:=h
 refine⟨c,e,f,h1,h2,h3,h4,λk x hk hx=>?_⟩
 obtain⟨v,hv,hr⟩:=h5 k x hk hx
 exact⟨v,hv,CR.mono hs hr⟩
def yd{W:World}{xs:List (Option iM)}{r:iM}(h:eh W xs)(hr:oX (iX xs) W r.cells r.p):eh W (xs++[some r]):=by
 intro i x hx;by_cases hi:i<xs.length
 ·rw[List.getElem?_append_left hi]at hx;exact oX.sub (jX _ _) (h i x hx)
 rw[List.getElem?_append_right (by omega)]at hx;have:i-xs.length=0:=by
  rcases Nat.eq_zero_or_pos (i-xs.length)with h|h
  ·exact h
  rw[List.getElem?_eq_none (by simp;omega)]at hx;cases hx
 rw[this]at hx;cases hx
 exact oX.sub (jX _ _) hr
def yC(xs:List (Option iM))(r:iM):iX (xs++[some r]) xs.length 0=some r.p:=by
 unfold iX;rw[zB0 rfl,List.getElem?_append_right (zA1 _),Nat.sub_self];rfl
def xZ(xs:List (Option iM))(r:iM):(lM (xs++[some r])).get xs.length=some (.ro r.cells):=by
 rw[jR,List.getElem?_append_right (zA1 _),Nat.sub_self];rfl
def Tw{W:World}:eh W []:=λi x h=>by simp at h
section
variable{P:Program}{W:World}{α β:Type}
def Opn(P:Program)(W:World)(sz:Nat)(R:Nat->Hp->List AC->α->Prop)(t:TypeId):Prop:=
 ∀(H:Type)(enc:TypeId×Value->H)(fuel:Nat)(cs:List Value)(d:DataW H)(p:List MemPlace)(B:Nat),
  DataW.trod enc P W 0 (λ_=>true) true fuel t cs=some (d,p)->(∀n∈d.weights P t,n≤B) ->
  ∀xs,eh W xs->∃ys c x,eh W (xs++ys)∧CRs (iX (xs++ys)) c cs∧c.length=sz∧R B (lM (xs++ys)) c x
def IE(B:Nat)(_:Hp)(c:List AC)(s:List UInt8):Prop:=c=[.o (.str s)]∧s.length≤B
def vJ(k:IntKind)(_:Nat)(_:Hp)(c:List AC)(z:Int):Prop:=c=[.i k z]∧(Lit.int k z).wf=true
def UB(_:Nat)(_:Hp)(c:List AC)(z:Bool):Prop:=c=[.b z]
theorem qi{t:TypeId}(ht:P.underlying t=some .string):Opn P W 1 IE t:=by
 intro H enc fuel cs d p B h hw xs hx;obtain⟨s,rfl,e,_⟩:=DataW.trod_string ht h
 cases e
 refine⟨[],[.o (.str s.data.toList)],s.data.toList,by rwa [List.append_nil],⟨?_,trivial⟩,rfl,rfl,hw _ (by simp[DataW.weights])⟩
 show Value.string s=.string ⟨s.data.toList.toArray⟩;simp
theorem iq{t:TypeId}{k:IntKind}(ht:P.underlying t=some (.int k)):Opn P W 1 (vJ k) t:=by
 intro H enc fuel cs d p B h hw xs hx;obtain⟨n,rfl,e,Z8⟩:=DataW.trod_int ht h
 exact⟨[],[.i k n],n,by rwa [List.append_nil],⟨rfl,trivial⟩,rfl,rfl,Z8⟩
def Li{H:Type}(enc:TypeId×Value->H)(P:Program)(W:World)(n:Nat):List TypeId->List Value->List (DataW H×List MemPlace)->Prop
 |[],cs,[]=>cs=[]
 |t::ts,cs,y::ys=>P.cellsOf t≤cs.length∧DataW.trod enc P W 0 (λ_=>true) true n t (cs.take (P.cellsOf t))=some y∧Li enc P W n ts (cs.drop (P.cellsOf t)) ys
 |_,_,_=>False
def UZ(P:Program)(W:World)(sz:Nat)(R:Nat->Hp->List AC->α->Prop)(ts:List TypeId):Prop:=
 ∀(H:Type)(enc:TypeId×Value->H)(n:Nat)(cs:List Value)(ys:List (DataW H×List MemPlace))(B:Nat),
  Li enc P W n ts cs ys->(∀n∈DataW.weightsEach P ts (ys.map (·.1)),n≤B) ->
  ∀xs,eh W xs->∃rs c x,eh W (xs++rs)∧CRs (iX (xs++rs)) c cs∧c.length=sz∧R B (lM (xs++rs)) c x
theorem fT{sz:Nat}{R:Nat->Hp->List AC->α->Prop}{t:TypeId}(h:Opn P W sz R t):UZ P W sz R [t]:=by
 intro H enc n cs ys B hp hw xs hx;match ys,hp with
 |[y],⟨h1,h2,h3⟩=>
  have r_:cs.drop (P.cellsOf t)=[]:=h3;have e:cs.take (P.cellsOf t)=cs:=by have:=List.take_append_drop (P.cellsOf t) cs;rwa [r_,List.append_nil]at this
  rw[e]at h2;exact h H enc n cs y.1 y.2 B h2 (λn hn=>hw n (by simp[DataW.weightsEach,hn])) xs hx
def fX(R:Nat->Hp->List AC->α->Prop)(S:Nat->Hp->List AC->β->Prop)(B:Nat)(H:Hp)(c:List AC)(x:α×β):Prop:=∃c1 c2,c=c1++c2∧R B H c1 x.1∧S B H c2 x.2
def iz(R:Nat->Hp->List AC->α->Prop):Prop:=∀B H H' c x,R B H c x->Gr H H'->R B H' c x
theorem eZ:iz IE:=λ_ _ _ _ _ h _=>h
theorem cU{k:IntKind}:iz (vJ k):=λ_ _ _ _ _ h _=>h
theorem cQ{R:Nat->Hp->List AC->α->Prop}{S:Nat->Hp->List AC->β->Prop}(h:iz R)(k:iz S):iz (fX R S):=λ_ _ _ _ _⟨c1,c2,e,a,b⟩g=>⟨c1,c2,e,h _ _ _ _ _ a g,k _ _ _ _ _ b g⟩
theorem ca{sz sz':Nat}{R:Nat->Hp->List AC->α->Prop}{S:Nat->Hp->List AC->β->Prop}{t:TypeId}{ts:List TypeId}(h:Opn P W sz R t)(hR:iz R)(hs:UZ P W sz' S ts):UZ P W (sz+sz') (fX R S) (t::ts):=by
 intro H enc n cs ys B hp hw xs hx;match ys,hp with
 |y::ys,⟨h1,h2,h3⟩=>
  obtain⟨r1,c1,x1,a1,a2,a3,a4⟩:=h H enc n _ y.1 y.2 B h2 (λn hn=>hw n (by simp[DataW.weightsEach,hn])) xs hx
  obtain⟨r2,c2,x2,b1,b2,b3,b4⟩:=hs H enc n _ ys B h3 (λn hn=>hw n (by simp only[List.map_cons,DataW.weightsEach,List.mem_append];exact .inr hn)) (xs++r1) a1
  rw[List.append_assoc]at b1 b2 b4;refine⟨r1++r2,c1++c2,(x1,x2),b1,?_,by rw[List.length_append,a3,b3],c1,c2,rfl,?_,b4⟩
  ·have:=CRs.append (CRs.mono (by rw[<-List.append_assoc];exact jX _ _) a2) b2;rwa [List.take_append_drop]at this
  exact hR _ _ _ _ _ a4 (by rw[<-List.append_assoc];exact jv _ _)
def sh(P:Program)(n:Nat):Nat->List Field->Bool
 |o,[]=>o==n
 |o,f::fs=>(f.offset==o)&&(decide (o+P.cellsOf f.type≤n)&&sh P n (o+P.cellsOf f.type) fs)
theorem wQ{H:Type}{enc:TypeId×Value->H}{n:Nat}{cs:List Value}:∀(fs:List Field)(o:Nat)(ys:List (DataW H×List MemPlace)),sh P cs.length o fs=true->ys.length=fs.length ->
  (∀(i:Nat)(f:Field),fs[i]?=some f->DataW.trod enc P W 0 (λ_=>true) true n f.type ((cs.drop f.offset).take (P.cellsOf f.type))=ys[i]?)->Li enc P W n (fs.map (·.type)) (cs.drop o) ys
 |[],o,[],ho,_,_=>by
  have:o=cs.length:=by simpa [sh]using ho
  show cs.drop o=[];rw[this,List.drop_length]
 |f::fs,o,y::ys,ho,hl,h=>by
  simp only[sh,Bool.and_eq_true,beq_iff_eq,decide_eq_true_eq]at ho;obtain⟨h1,h2,h3⟩:=ho
  refine⟨by show P.cellsOf f.type≤_;rw[List.length_drop];omega,?_,?_⟩
  ·have:=h 0 f rfl;rwa [h1]at this
  rw[List.drop_drop];exact wQ fs _ ys h3 (by simpa using hl) λi g hg=>h (i+1) g hg
 |[],_,_::_,_,hl,_=>by simp at hl
 |_::_,_,[],_,hl,_=>by simp at hl
theorem dD{sz:Nat}{R:Nat->Hp->List AC->α->Prop}{t:TypeId}{fs:Array Field}{ts:List TypeId}(ht:P.underlying t=some (.struct fs))(ho:sh P (P.cellsOf t) 0 fs.toList=true)(hts:fs.toList.map (·.type)=ts)(h:UZ P W sz R ts):Opn P W sz R t:=by
 intro H enc fuel cs d p B hd hw xs hx;obtain⟨ys,n,_,e,hl,Z9,hf⟩:=DataW.trod_struct ht hd
 cases e
 rw[<-hl]at ho;have hp:=wQ (enc:=enc) (W:=W) (n:=n) (cs:=cs) fs.toList 0 ys ho (by rw[Z9];simp) (λi f hi=>hf i f (by simpa using hi));rw[hts,List.drop_zero]at hp;refine h H enc n cs ys B hp (λk hk=>hw k ?_) xs hx;simp only[DataW.weights,ht];rwa [hts]
theorem mS{H:Type}{e:TypeId}{d:DataW H}{n:Nat}(hn:n∈d.weights P e):∀{l:List (DataW H)},d∈l->n∈DataW.weightsAll P e l
 |x::l,h=>by
  rcases List.mem_cons.1 h with rfl|h
  ·simp[DataW.weightsAll,hn]
  simp only[DataW.weightsAll,List.mem_append];exact .inr (mS hn h)
def tI(P:Program)(e:TypeId)(sz:Nat)(R:Nat->Hp->List AC->α->Prop)(B:Nat)(H:Hp)(c:List AC)(l:List α):Prop:=∃u,c=[u]∧SlR (R B) sz H u l∧l.length*P.bytesOf e≤B
theorem nF{e:TypeId}{sz:Nat}{R:Nat->Hp->List AC->α->Prop}(h:iz R):iz (tI P e sz R):=λ_ _ _ _ _⟨u,hc,a,b⟩g=>⟨u,hc,a.dG g.nx (λi hi=>g.get i hi zB2) λ_ _ k=>h _ _ _ _ _ k g,b⟩
theorem AN{sz:Nat}{R:Nat->Hp->List AC->α->Prop}{e:TypeId}(hR:iz R)(h:Opn P W sz R e){H:Type}{enc:TypeId×Value->H}{n B:Nat}{a:Addr}{D:Nat->DataW H}{Pl:Nat->List MemPlace}:
  ∀(m:Nat),(∀i,i<m->∃cs',W.cells? 0 (a.add (i*sz)) sz=some cs'∧DataW.trod enc P W 0 (λ_=>true) true n e cs'=some (D i,Pl i))->(∀i,i<m->∀k∈(D i).weights P e,k≤B) ->
  ∀xs,eh W xs->∃ys css l,l.length=m∧eh W (xs++ys)∧Al (λc x=>c.length=sz∧R B (lM (xs++ys)) c x) css l ∧
   ∀k,k<m->∃c cs',css[k]?=some c∧W.cells? 0 (a.add (k*sz)) sz=some cs'∧CRs (iX (xs++ys)) c cs'
 |0,_,_,xs,hx=>⟨[],[],[],rfl,by rwa [List.append_nil],trivial,λk hk=>absurd hk (Nat.not_lt_zero k)⟩
 |m+1,hc,hw,xs,hx=>by
  obtain⟨ys,css,l,hl,O0,M8,hk⟩:=AN hR h m (λi hi=>hc i (by omega)) (λi hi=>hw i (by omega)) xs hx
  obtain⟨cs',h1,h2⟩:=hc m (zA6 m)
  obtain⟨zs,c,x,b1,b2,b3,b4⟩:=h H enc n cs' _ _ B h2 (hw m (zA6 m)) (xs++ys) O0
  have hlen:css.length=m:=by rw[M8.len,hl]
  rw[List.append_assoc]at b1 b2 b4;have U0:Sub (iX (xs++ys)) (iX (xs++(ys++zs))):=by rw[<-List.append_assoc];exact jX _ _
  have B1:Gr (lM (xs++ys)) (lM (xs++(ys++zs))):=by rw[<-List.append_assoc];exact jv _ _
  refine⟨ys++zs,css++[c],l++[x],by simp[hl],b1,Al.app (M8.mono λc x⟨u,v⟩=>⟨u,hR _ _ _ _ _ v B1⟩) ⟨b3,b4⟩,λk R2=>?_⟩
  by_cases hkm:k<m
  ·obtain⟨c1,cs1,e1,e2,e3⟩:=hk k hkm
   exact⟨c1,cs1,by rw[List.getElem?_append_left (by omega)];exact e1,e2,CRs.mono U0 e3⟩
  have:k=m:=by omega
  subst this;exact⟨c,cs',by rw[List.getElem?_append_right (by omega),hlen,Nat.sub_self];rfl,h1,b2⟩
theorem gm{sz:Nat}{R:Nat->Hp->List AC->α->Prop}{t e:TypeId}(ht:P.underlying t=some (.slice e))(L1:P.cellsOf e=sz)(D4:0<sz)(hR:iz R)(hB:kQ W)(h:Opn P W sz R e):
  Opn P W 1 (tI P e sz R) t:=by
 intro H enc fuel cs d p B hd hw xs hx;rcases Deep.open_slice ht hd with⟨rfl,e1⟩|⟨a,len,cap,m,n,D,Pl,rfl,_,hl,hmax,hm,hxx,N3⟩
 ·exact⟨[],[.o .nilS],[],by rwa [List.append_nil],⟨rfl,trivial⟩,rfl,.o .nilS,rfl,⟨[],⟨by simp,.inl ⟨rfl,rfl⟩⟩,trivial⟩,by simp⟩
 have hm':m=cap:=by rw[hm];rfl
 subst hm';rw[L1]at N3;have L9:=congrArg Prod.fst hxx;simp only at L9
 subst L9;simp only[DataW.weights,ht]at hw;have hwl:len*P.bytesOf e≤B:=by
  have:=hw _ (List.mem_cons_self ..);simp only[List.length_map,List.length_range]at this;exact zA2 (Nat.mul_le_mul_right _ (by omega)) this
 have hwe:∀i,i<len->∀k∈(D i).weights P e,k≤B:=λi hi k hk=>hw k (List.mem_cons_of_mem _ (List.mem_append_left _ (mS hk (List.mem_map.2 ⟨i,List.mem_range.2 hi,rfl⟩))));obtain⟨ys,css,l,hll,O0,M8,hk⟩:=AN hR h len (λi hi=>N3 i (by omega)) hwe xs hx
 have J1:css.length=len:=by rw[M8.len,hll]
 have hlens:∀c∈css,c.length=sz:=M8.lens;have m9:(css.flatMap id).length=len*sz:=by rw[AI hlens,J1]
 rcases Nat.eq_zero_or_pos m with L'|L'
 ·
  subst L';have j5:len=0:=by omega
  subst j5;obtain⟨b0,c0,e0,f0,M9⟩:=hB
  have W2:css=[]:=List.eq_nil_of_length_eq_zero J1;have j5:l=[]:=List.eq_nil_of_length_eq_zero hll;subst W2 j5;have P0:oX (iX (xs++ys)) W [] ⟨b0,0,c0.size,0⟩:=⟨c0,e0,f0,M9,rfl,Nat.zero_le _,zA1 _,λk x hk _=>absurd hk (Nat.not_lt_zero k)⟩;have T8:=yd (r:=⟨[],⟨b0,0,c0.size,0⟩⟩) O0 P0;rw[List.append_assoc]at T8;have R4:=yC (xs++ys) ⟨[],⟨b0,0,c0.size,0⟩⟩;have hhl:=xZ (xs++ys) ⟨[],⟨b0,0,c0.size,0⟩⟩;rw[List.append_assoc]at R4 hhl;refine⟨ys++[some ⟨[],⟨b0,0,c0.size,0⟩⟩],[.o (.sl (xs++ys).length 0 0 0 sz)],[],T8,⟨⟨_,0,a,R4,?_,zA1 _,rfl,.inl rfl⟩,trivial⟩,rfl,_,rfl,⟨[],⟨by simp,.inr ⟨_,0,0,rfl,?_,[],?_,?_,by simp⟩⟩,trivial⟩,by simp⟩
  ·show 0+0*sz≤0;omega
  ·show(xs++ys).length<(xs++(ys++[_])).length
   simp only[List.length_append,List.length_cons,List.length_nil];omega
  ·rw[hhl];rfl
  simp
 
 have hblk:a.spot=none∧∃c e f,W.heap[a.block]?=some (.cells c e f):=by
  obtain⟨cs',h1,_⟩:=N3 0 L'
  obtain⟨_,h2,h3⟩:=World.cells?_some h1
  have h4:=h3 0 D4;rw[Nat.zero_mul,Addr.add,zB0 rfl,Addr.add,zB0 rfl,zB4 (by omega)]at h4;unfold World.cell? at h4;split at h4
  ·rename_i c e f hh
   split at h4
   ·cases h4
   rename_i hs
   exact⟨by cases hq:a.spot with|none=>rfl|some q=>rw[hq]at hs;exact absurd rfl hs,c,e,f,hh⟩
  cases h4
 obtain⟨T6,c,e',f',hc⟩:=hblk
 obtain⟨b,o,sp⟩:=a
 simp only at T6 hc
 subst T6;have addA:∀k:Nat,(⟨b,o,none⟩:Addr).add k=⟨b,o+k,none⟩:=λk=>by
  unfold Addr.add;split
  ·rename_i h0;rw[h0];rfl
  rfl
 have at_:∀k j,k<m->j<sz->∀cs',W.cells? 0 ((⟨b,o,none⟩:Addr).add (k*sz)) sz=some cs'->c[o+(k*sz+j)]?=cs'[j]?:=λk j hk hj cs' h1=>by
  obtain⟨_,h2,h3⟩:=World.cells?_some h1
  have h4:=h3 j hj;rw[Deep.add_add,addA]at h4;rw[<-h4];unfold World.cell?;simp only[hc];rfl
 have hsize:o+m*sz≤c.size:=by
  obtain⟨cs',h1,_⟩:=N3 (m-1) (by omega)
  have h2:=(World.cells?_some h1).2.1;have h3:=at_ (m-1) (sz-1) (by omega) (by omega) cs' h1;rw[zB4 (by omega)]at h3;have h4:=(Array.getElem?_eq_some_iff.1 h3).1;have h5:(m-1)*sz+sz=m*sz:=by rw[<-Nat.succ_mul];congr 1;omega
  omega
 have hlm:len*sz≤m*sz:=Nat.mul_le_mul_right _ hl;have P0:oX (iX (xs++ys)) W (css.flatMap id) ⟨b,o,c.size,len*sz⟩:=by
  refine⟨c,e',f',hc,rfl,?_,?_,λk x R2 M6=>?_⟩
  ·show o+len*sz≤c.size;omega
  ·show len*sz≤_;omega
  have hk3:k<len*sz:=R2;have hq:k/sz<len:=(Nat.div_lt_iff_lt_mul D4).2 hk3;have hr:k%sz<sz:=Nat.mod_lt _ D4;have Q4:k=k/sz*sz+k%sz:=by have:=Nat.div_add_mod k sz;rw[Nat.mul_comm]at this;omega
  obtain⟨c1,cs1,g1,g2,g3⟩:=hk (k/sz) hq
  have g4:=at_ (k/sz) (k%sz) (by omega) hr cs1 g2;have g5:=vD hlens g1;have k9:cs1.length=sz:=(World.cells?_some g2).2.1;have g6:c1[k%sz]?=some x:=by
   rw[<-g5,List.getElem?_take,zB0 hr,List.getElem?_drop,<-Q4];exact M6
  rw[<-Q4,zB4 (by omega)]at g4;exact⟨_,g4,CRs.get g3 _ _ _ g6 (zB4 (by omega))⟩
 have T8:=yd (r:=⟨css.flatMap id,⟨b,o,c.size,len*sz⟩⟩) O0 P0;have R4:=yC (xs++ys) ⟨css.flatMap id,⟨b,o,c.size,len*sz⟩⟩;have hhl:=xZ (xs++ys) ⟨css.flatMap id,⟨b,o,c.size,len*sz⟩⟩;rw[List.append_assoc]at T8 R4 hhl;have B1:Gr (lM (xs++ys)) (lM (xs++(ys++[some ⟨css.flatMap id,⟨b,o,c.size,len*sz⟩⟩]))):=by rw[<-List.append_assoc];exact jv _ _
 refine⟨ys++[some ⟨css.flatMap id,⟨b,o,c.size,len*sz⟩⟩],[.o (.sl (xs++ys).length 0 0 len sz)],l,T8,⟨⟨_,m,_,R4,?_,hl,rfl,.inr ⟨rfl,?_⟩⟩,trivial⟩,rfl,_,rfl,
  ⟨css,⟨by rw[hll];exact m9,.inr ⟨_,0,0,by rw[hll],?_,css.flatMap id,?_,?_,?_⟩⟩,M8.mono λc x⟨u,v⟩=>⟨u,hR _ _ _ _ _ v B1⟩⟩,by rw[hll];exact hwl⟩
 ·show 0+len*sz≤len*sz;omega
 ·show o+0+m*sz≤c.size;omega
 ·show(xs++ys).length<(xs++(ys++[_])).length
  simp only[List.length_append,List.length_cons,List.length_nil];omega
 ·rw[hhl];rfl
 ·rw[hll];omega
 rw[List.drop_zero,hll,List.take_of_length_le (by omega)]
theorem Wf{sz:Nat}{R:Nat->Hp->List AC->α->Prop}{t e:TypeId}{v:Value}{base B:Nat}{H:Type}{enc:TypeId×Value->H}{d:DataW H}{p:List MemPlace}(ht:P.underlying t=some (.slice e))(hO:kQ W->Opn P W 1 (tI P e sz R) t)
  (B7:Value.okWide P W .any base t v) (hd:DataW.Trod enc P W 0 (λ_=>true) true t v d p) (hw:∀n∈d.weights P t,n≤B) (xs:List (Option iM)) (hx:eh W xs):
  ∃ys u l,eh W (xs++ys)∧AR (iX (xs++ys)) (.one u) v∧tI P e sz R B (lM (xs++ys)) [u] l:=by
 obtain⟨fuel,hf⟩:=hd
 have U':=B7;obtain⟨a0,len,cap,rfl⟩:=okWide_slice ht B7
 have N4:(Value.slice a0 len cap).cells.toList=[.slice a0 len cap]:=rfl;rw[N4]at hf;simp only[Value.okWide,ht,Cell.okWide,Cell.ok]at U';cases a0 with
 |none=>
  rcases Deep.open_slice ht hf with⟨e1,_⟩|⟨a,len',cap',m,n,D,Pl,e1,_⟩
  ·cases e1
   exact⟨[],.o .nilS,[],by rwa [List.append_nil],rfl,.o .nilS,rfl,⟨[],⟨by simp,.inl ⟨rfl,rfl⟩⟩,trivial⟩,by simp⟩
  cases e1
 |some a=>
  obtain⟨_,_,_,_,row,cells,D5,_⟩:=U'
  have hB:kQ W:=by
   unfold World.shape? at D5;split at D5
   ·rename_i c e f hh;exact⟨_,c,e,f,hh⟩
   cases D5
  obtain⟨ys,c,l,h1,h2,h3,h4⟩:=hO hB H enc fuel _ d p B hf hw xs hx
  have Q_:=h4;obtain⟨u,rfl,_⟩:=Q_
  exact⟨ys,u,l,h1,h2.1,h4⟩
theorem ru{f:α->List AC}:∀{css:List (List AC)}{l:List α},Al (λc x=>c=f x) css l->css.flatMap id=l.flatMap f
 |[],[],_=>rfl
 |c::css,x::l,h=>by
  rw[List.flatMap_cons,List.flatMap_cons,ru h.2,<-h.1];rfl
 |[],_::_,h=>h.elim
 |_::_,[],h=>h.elim
theorem Al.all{γ:Type}{R:γ->α->Prop}{Q:α->Prop}(hq:∀c x,R c x->Q x):∀{cs:List γ}{l:List α},Al R cs l->∀x∈l,Q x
 |[],[],_,x,hx=>by cases hx
 |c::cs,y::l,h,x,hx=>by
  rcases List.mem_cons.1 hx with rfl|hx
  ·exact hq c _ h.1
  exact Al.all hq h.2 x hx
 |[],_::_,h,_,_=>h.elim
 |_::_,[],h,_,_=>h.elim
end
def qB:=zDm @Tg @Mz @Ra @XA @ZD @RO @Xc @XC @XD @Fc @List.map_cons.{0,0} (zDm @List.map_nil.{0,0} @List.getElem?_cons_zero.{0} @List.getElem?_cons_succ.{0} @Option.elim_some.{1,0} @Option.map_some.{0,0} @Option.bind_some.{0,0} @AA @KP @EE @MN @decide_eq_true_eq (zDm @decide_true @decide_false @HK @po @So @Hn @DH @Fb @DU @Fw @Xe (zDm @tD @pX @qM @KA @sV @Nat.add_one_sub_one @Nat.one_mul @UG @SW @Gx @ZQ (zDm @YU @Xi @Option.map_none.{0,0} @Nat.lt_add_left_iff_pos @Nat.zero_lt_succ @Nat.le_add_left @CU @sk @Kk @Eg @Up (zDm @Nl @En @QD @Ri @qP @Gs @pt @FM @uX @tv @tx (zDm @vF @rz @EY @oE @Ug @zr @Ny @uR @zY @Sj @KQ (zDm @SC @NC @Mn @Xu @Dq @MU @ae @az @zU @al @Nat.blt_eq (zDm @true_and @and_true @true_or @or_true @if_true.{1} @if_false.{1} @Bool.false_eq_true @Bool.true_eq_false @not_false_eq_true @not_true_eq_false @LS (zDm @CD @tR @KH @Xy @ti @Lc @aB @aS @an @au @XG (zDm @RL @YY @Zl @XF @Xq @Lz @MC @YX @Zy @gy @th (zDm @cG @Ic @tZ @uu @Ms @fm @pC @Bool.not_eq_true' @Bool.not_eq_false' @decide_eq_false_iff_not @ne_eq.{1} (zDm @Nat.lt_irrefl @gt_iff_lt.{0} @Bk @AF @yz @yK @List.length_cons.{0} @List.length_nil.{0} @Nat.zero_add @Nat.add_zero @Nat.le_refl (zDm @Nat.zero_le @wM @tc @sX @qy @List.cons_append.{0} @List.nil_append.{0} @List.append_nil.{0} @Zz @Xr @ZF (zDm @Xm @ZX @Xx @SA @QV @Qg @Ue @TC @Qm @TG @Ul (zDm @UK @Su @Tc @Qt @TF @TP @Sf @List.take_succ_cons.{0} @List.take_zero.{0} @List.drop_succ_cons.{0} @List.drop_zero.{0} (zDm @List.take_nil.{0} @List.drop_nil.{0} @List.headD_cons.{0} @Bool.not_true @Bool.not_false @Nat.lt_add_one @LD @Xh @GC @Mg @sn (zDm @Dp @Dd @Cs @AK @Ge @AG @Nat.zero_mul @uJ @tn @vz @zP (zDm @qD @Em @Ek @Uc @ql @zA @zC @xE @tk @pV @ri (zB3 @LZ (@JX))))))))))))))))))))
def oO(c:List AC):List Nat:=c.flatMap λa=>(AV.one a).ids
def Qd:oO []=[]:=rfl
def Og(a:AC)(c:List AC):oO (a::c)=(AV.one a).ids++oO c:=rfl
def ZT(k:IntKind)(n:Int):(AV.one (.i k n)).ids=[]:=rfl
def VI(s:List UInt8):(AV.one (.o (.str s))).ids=[]:=rfl
section
variable{α:Type}
def FrR(R:Hp->List AC->α->Prop):Prop:=∀(Y:Nat->Prop)(H H':Hp)(c:List AC)(x:α),R H c x->Fr Y H H'->(∀id∈oO c,¬Y id)->R H' c x
def LtR(R:Hp->List AC->α->Prop):Prop:=∀(H:Hp)(c:List AC)(x:α),R H c x->∀id∈oO c,id<H.nx
structure kK(R:Hp->List AC->α->Prop)(sz:Nat)(e:TypeId)(X:Nat->Prop)(H:Hp)(v:AC)(l:List α)(r:Option Nat):Prop where
 row:∀q,r=some q->¬X q∧q<H.nx
 own:∃css:List (List AC),dg H v e sz l.length (css.flatMap id) r∧Al (λc x=>c.length=sz∧R H c x∧∀id∈oO c,¬X id∧some id≠r) css l
theorem dg.rlt{H:Hp}{v:AC}{e:TypeId}{sz n:Nat}{cells:List AC}{q:Nat}(h:dg H v e sz n cells (some q)):q<H.nx:=by
 rcases h with⟨_,_,_,e⟩|⟨id,lo,gen,e,_,_,_,_,hl⟩
 ·cases e
 cases e;exact hl
theorem kK.nil{R:Hp->List AC->α->Prop}{sz:Nat}{e:TypeId}{X:Nat->Prop}{H:Hp}:kK R sz e X H (.o .nilS) [] none where
 row:=λq hq=>by cases hq
 own:=⟨[],.inl ⟨rfl,rfl,rfl,rfl⟩,trivial⟩
theorem kK.fr{R:Hp->List AC->α->Prop}(hR:FrR R)(hl:LtR R){sz:Nat}{e:TypeId}{X Y:Nat->Prop}{H H':Hp}{v:AC}{l:List α}{r:Option Nat}(h:kK R sz e X H v l r)(hf:Fr Y H H')(hy:∀i,Y i->X i∨H.nx≤i):kK R sz e X H' v l r where
 row:=λq hq=>⟨(h.row q hq).1,zA0 (h.row q hq).2 hf.nx⟩
 own:=by
  obtain⟨css,a,b⟩:=h.own
  refine⟨css,a.fr hf λi hi hyi=>?_,b.mono λc x⟨h1,h2,h3⟩=>⟨h1,hR _ _ _ _ _ h2 hf λi hi hyi=>?_,h3⟩⟩
  ·have:=h.row i hi;rcases hy i hyi with h|h
   ·exact this.1 h
   omega
  have h4:=hl _ _ _ h2 i hi;rcases hy i hyi with h|h
  ·exact(h3 i hi).1 h
  omega
theorem kK.gr{R:Hp->List AC->α->Prop}(hR:FrR R)(hl:LtR R){sz:Nat}{e:TypeId}{X:Nat->Prop}{H H':Hp}{v:AC}{l:List α}{r:Option Nat}(h:kK R sz e X H v l r)(hf:Gr H H'):kK R sz e X H' v l r:=h.fr hR hl hf λ_ h=>h.elim
theorem kK.slr{R:Hp->List AC->α->Prop}{sz:Nat}{e:TypeId}{X:Nat->Prop}{H:Hp}{v:AC}{l:List α}{r:Option Nat}(h:kK R sz e X H v l r):SlR R sz H v l:=by
 obtain⟨css,a,b⟩:=h.own
 exact⟨css,a.slc,b.mono λc x⟨h1,h2,_⟩=>⟨h1,h2⟩⟩
theorem kK.push{P:Program}{R:Hp->List AC->α->Prop}(hR:FrR R)(hl:LtR R){H:Hp}{t e:TypeId}{sz by_:Nat}{z:Value}{X:Nat->Prop}{v:AC}{l:List α}{r:Option Nat}(he:bt P t=some (e,sz))(hb:cK P e=some by_)(hz:ay P e=some z)(B2:(ofValue z).cells.length=sz)(L1:sz≠0)
  (ho:kK R sz e X H v l r) (hX:∀i,X i->i<H.nx) {c0:List AC} {x:α} (O_:c0.length=sz) (hx:R H c0 x) (hi:∀id∈oO c0,¬X id∧some id≠r) (hL:l.length+1≤140737488355328∧(l.length+1)*by_≤140737488355328):
  ltV (.one v) (H.new (.arr c0 e 0 0)).nx∧∃v' H' r',bh P (H.new (.arr c0 e 0 0)) t (.one v) (.one (.o (.sl H.nx 0 0 1 sz)))=.val (.one v') H' ∧
   kK R sz e X H' v' (l++[x]) (some r')∧Fr (λi=>r=some i) H H'∧(r=some r'∨H.nx≤r'):=by
 obtain⟨css,a,b⟩:=ho.own
 obtain⟨C0,v',H',r',Q2,D3,hf,hr⟩:=fI he hb hz B2 L1 a c0 O_ hL
 have keep:∀c y,c.length=sz∧R H c y∧(∀id∈oO c,¬X id∧some id≠r)->c.length=sz∧R H' c y∧∀id∈oO c,¬X id∧some id≠some r':=λc y⟨h1,h2,h3⟩=>by
  refine⟨h1,hR _ _ _ _ _ h2 hf λi hi e=>(h3 i hi).2 e.symm,λi hi=>⟨(h3 i hi).1,λe=>?_⟩⟩
  cases e
  rcases hr with h|h
  ·exact(h3 _ hi).2 h.symm
  have:=hl _ _ _ h2 _ hi;omega
 refine⟨C0,v',H',r',Q2,⟨λq hq=>?_,css++[c0],?_,Al.app (b.mono keep) (keep _ _ ⟨O_,hx,hi⟩)⟩,hf,hr⟩
 ·cases hq
  refine⟨λhh=>?_,D3.rlt⟩
  rcases hr with h|h
  ·exact(ho.row _ h).1 hh
  have:=hX _ hh;omega
 rw[List.flatMap_append,List.length_append];have e1:([c0]:List (List AC)).flatMap id=c0:=by simp
 rw[e1];exact D3
end
def oW{P:Program}{H:Hp}{t e:TypeId}{sz by_:Nat}{z:Value}{k k':IntKind}{n:Nat}(he:bt P t=some (e,sz))(hb:cK P e=some by_)(hz:ay P e=some z)(B2:(ofValue z).cells.length=sz)(hn:n≤1073741824∧n*by_≤140737488355328):
  cL P H t (.one (.i k (n:Int))) (.one (.i k' (n:Int)))=.val (.one (.o (.sl H.nx 0 0 n sz))) (H.new (.arr (jA (ofValue z).cells n) e 0 0)):=by
 have h1:Nat.ble n n=true:=zA5 (zA1 _);have h2:Nat.ble n 1073741824=true:=zA5 hn.1;have h3:Nat.ble (Nat.mul n by_) 140737488355328=true:=zA5 hn.2;have h4:Nat.beq (bq (ofValue z).cells) sz=true:=by rw[bj,B2];exact Nat.beq_refl _
 unfold cL;rw[he];show nd (cK P e) _ _=_;rw[hb];show nd (ay P e) _ _=_;rw[hz];show aA (both (Nat.ble n n) (both (Nat.ble n 1073741824) (both (Nat.ble (Nat.mul n by_) 140737488355328) (Nat.beq (bq (ofValue z).cells) sz)))) _ _=_;rw[h1,h2,h3,h4];rfl
def uv{a:AC}:∀(n:Nat),jA [a] n=List.replicate n a
 |0=>rfl
 |n+1=>by
  show lL [a] (jA [a] n)=_;rw[uv n];rfl
def xA{H:Hp}{id g off len sz:Nat}{x:Int}(h0:0≤x)(h:x<len):cC H sz (.one (.o (.sl id g off len sz))) (.one (.i .i64 x))=.val (.one (.o (.ptr id g (off+x.toNat*sz) sz))) H:=by
 have h1:=jb (H:=H) (id:=id) (g:=g) (off:=off) (len:=len) (sz:=sz) (i:=x.toNat) (by omega);have h2:((x.toNat:Nat):Int)=x:=by omega
 rw[h2]at h1;exact h1
def CY(bs:List Bool)(i:Nat):((bs.map AC.b).drop i).headD (.b false)=.b (bs.getD i false):=by
 rw[<-List.map_drop,List.getD_eq_getElem?_getD];have:(bs.drop i)[0]?=bs[i]?:=by rw[List.getElem?_drop];rfl
 rw[<-this];cases bs.drop i with
 |nil=>rfl
 |cons a l=>rfl
def setRow{α:Type}(f:α->AC)(l:List α)(i:Nat)(a:α)(h:i<l.length):(l.map f).take i++f a::(l.map f).drop (i+1)=(l.set i a).map f:=by
 rw[List.set_eq_take_append_cons_drop,zB0 h,List.map_append,List.map_cons,List.map_take,List.map_drop]
def Mk(bs:List Bool)(n:Nat)(S:List Int):Prop:=bs.length=n∧∀j:Nat,j<n->bs.getD j false=S.any λx=>x==(j:Int)
def Mk.nil(n:Nat):Mk (List.replicate n false) n []:=⟨List.length_replicate,λj hj=>by
 rw[List.getD_eq_getElem?_getD,List.getElem?_replicate,zB0 hj];rfl⟩
def Mk.set{bs:List Bool}{n:Nat}{S:List Int}(h:Mk bs n S){x:Int}(h0:0≤x)(hx:x<n):Mk (bs.set x.toNat true) n (S++[x]):=by
 refine⟨by rw[List.length_set];exact h.1,λj hj=>?_⟩
 have hj2:=h.2 j hj;rw[List.getD_eq_getElem?_getD]at hj2 ⊢;rw[List.any_append,<-hj2];by_cases e:x.toNat=j
 ·have e2:(x==(j:Int))=true:=by rw[beq_iff_eq];omega
  rw[List.getElem?_set,zB0 e,zB0 (by rw[h.1];omega)];simp[e2]
 have e2:(x==(j:Int))=false:=zB5 (by omega);rw[List.getElem?_set_ne e];simp[e2]
def Mk.at{bs:List Bool}{n:Nat}{S:List Int}(h:Mk bs n S){x:Int}(h0:0≤x)(hx:x<n):bs.getD x.toNat false=S.any λy=>y==x:=by
 rw[h.2 _ (by omega)];have h2:((x.toNat:Nat):Int)=x:=by omega
 rw[h2]
def NF{P:Program}{W:World}{r:Reach}{base:Nat}{u:TypeId}{a:Addr}{l c:Nat}(h:Cell.okWide P W r base u (.slice (some a) l c)):kQ W:=by
 have h2:Cell.ok P W r base u (.slice (some a) l c):=by
  unfold Cell.okWide at h;cases hu:P.underlying u with
  |none=>rw[hu]at h;exact h
  |some d=>rw[hu]at h;cases d<;>exact h
 unfold Cell.ok at h2;cases hu:P.underlying u with
 |none=>rw[hu]at h2;exact h2.elim
 |some d=>
  rw[hu]at h2;cases d
  case slice e=>
   obtain⟨_,_,_,_,row,cells,D5,_⟩:=h2
   unfold World.shape? at D5;split at D5
   ·rename_i c e f hh;exact⟨_,c,e,f,hh⟩
   cases D5
  all_goals exact h2.elim
section
variable{P:Program}{W:World}{α β:Type}
def YW(cs:List Value):Prop:=∀v∈cs,∀a l c,v≠.slice (some a) l c
def EV(P:Program)(W:World)(sz:Nat)(R:Nat->Hp->List AC->α->Prop)(t:TypeId):Prop:=
 ∀(H:Type)(enc:TypeId×Value->H)(fuel:Nat)(cs:List Value)(d:DataW H)(p:List MemPlace)(B:Nat),
  DataW.trod enc P W 0 (λ_=>true) true fuel t cs=some (d,p)->(∀n∈d.weights P t,n≤B)->YW cs ->
  ∀xs,eh W xs->∃ys c x,eh W (xs++ys)∧CRs (iX (xs++ys)) c cs∧c.length=sz∧R B (lM (xs++ys)) c x
theorem Opn.z{sz:Nat}{R:Nat->Hp->List AC->α->Prop}{t:TypeId}(h:Opn P W sz R t):EV P W sz R t:=λH enc fuel cs d p B hd hw _ xs hx=>h H enc fuel cs d p B hd hw xs hx
theorem lC{sz:Nat}{R:Nat->Hp->List AC->α->Prop}{t e:TypeId}(ht:P.underlying t=some (.slice e)):EV P W 1 (tI P e sz R) t:=by
 intro H enc fuel cs d p B hd hw hz xs hx;rcases Deep.open_slice ht hd with⟨rfl,e1⟩|⟨a,len,cap,m,n,D,Pl,rfl,_⟩
 ·exact⟨[],[.o .nilS],[],by rwa [List.append_nil],⟨rfl,trivial⟩,rfl,.o .nilS,rfl,⟨[],⟨by simp,.inl ⟨rfl,rfl⟩⟩,trivial⟩,by simp⟩
 exact absurd rfl (hz _ (List.mem_singleton.2 rfl) a len cap)
def Kq(P:Program)(W:World)(sz:Nat)(R:Nat->Hp->List AC->α->Prop)(ts:List TypeId):Prop:=
 ∀(H:Type)(enc:TypeId×Value->H)(n:Nat)(cs:List Value)(ys:List (DataW H×List MemPlace))(B:Nat),
  Li enc P W n ts cs ys->(∀n∈DataW.weightsEach P ts (ys.map (·.1)),n≤B)->YW cs ->
  ∀xs,eh W xs->∃rs c x,eh W (xs++rs)∧CRs (iX (xs++rs)) c cs∧c.length=sz∧R B (lM (xs++rs)) c x
theorem xG{sz:Nat}{R:Nat->Hp->List AC->α->Prop}{t:TypeId}(h:EV P W sz R t):Kq P W sz R [t]:=by
 intro H enc n cs ys B hp hw hz xs hx;match ys,hp with
 |[y],⟨h1,h2,h3⟩=>
  have r_:cs.drop (P.cellsOf t)=[]:=h3;have e:cs.take (P.cellsOf t)=cs:=by have:=List.take_append_drop (P.cellsOf t) cs;rwa [r_,List.append_nil]at this
  rw[e]at h2;exact h H enc n cs y.1 y.2 B h2 (λn hn=>hw n (by simp[DataW.weightsEach,hn])) hz xs hx
theorem oH{sz sz':Nat}{R:Nat->Hp->List AC->α->Prop}{S:Nat->Hp->List AC->β->Prop}{t:TypeId}{ts:List TypeId}(h:EV P W sz R t)(hR:iz R)(hs:Kq P W sz' S ts):Kq P W (sz+sz') (fX R S) (t::ts):=by
 intro H enc n cs ys B hp hw hz xs hx;match ys,hp with
 |y::ys,⟨h1,h2,h3⟩=>
  obtain⟨r1,c1,x1,a1,a2,a3,a4⟩:=h H enc n _ y.1 y.2 B h2 (λn hn=>hw n (by simp[DataW.weightsEach,hn])) (λv hv=>hz v (List.mem_of_mem_take hv)) xs hx
  obtain⟨r2,c2,x2,b1,b2,b3,b4⟩:=hs H enc n _ ys B h3 (λn hn=>hw n (by simp only[List.map_cons,DataW.weightsEach,List.mem_append];exact .inr hn)) (λv hv=>hz v (List.mem_of_mem_drop hv)) (xs++r1) a1
  rw[List.append_assoc]at b1 b2 b4;refine⟨r1++r2,c1++c2,(x1,x2),b1,?_,by rw[List.length_append,a3,b3],c1,c2,rfl,?_,b4⟩
  ·have:=CRs.append (CRs.mono (by rw[<-List.append_assoc];exact jX _ _) a2) b2;rwa [List.take_append_drop]at this
  exact hR _ _ _ _ _ a4 (by rw[<-List.append_assoc];exact jv _ _)
theorem tw{sz:Nat}{R:Nat->Hp->List AC->α->Prop}{t:TypeId}{fs:Array Field}{ts:List TypeId}(ht:P.underlying t=some (.struct fs))(ho:sh P (P.cellsOf t) 0 fs.toList=true)(hts:fs.toList.map (·.type)=ts)(h:Kq P W sz R ts):EV P W sz R t:=by
 intro H enc fuel cs d p B hd hw hz xs hx;obtain⟨ys,n,_,e,hl,Z9,hf⟩:=DataW.trod_struct ht hd
 cases e
 rw[<-hl]at ho;have hp:=wQ (enc:=enc) (W:=W) (n:=n) (cs:=cs) fs.toList 0 ys ho (by rw[Z9];simp) (λi f hi=>hf i f (by simpa using hi));rw[hts,List.drop_zero]at hp;refine h H enc n cs ys B hp (λk hk=>hw k ?_) hz xs hx;simp only[DataW.weights,ht];rwa [hts]
theorem Tv{sz:Nat}{R:Nat->Hp->List AC->α->Prop}{t:TypeId}{fs:Array Field}{v:Value}{base B:Nat}{H:Type}{enc:TypeId×Value->H}{d:DataW H}{p:List MemPlace}(ht:P.underlying t=some (.struct fs))(hO:kQ W->Opn P W sz R t)(hZ:EV P W sz R t)
  (B7:Value.okWide P W .any base t v) (hd:DataW.Trod enc P W 0 (λ_=>true) true t v d p) (hw:∀n∈d.weights P t,n≤B) (xs:List (Option iM)) (hx:eh W xs):
  ∃ys c l,eh W (xs++ys)∧AR (iX (xs++ys)) (.agg c) v∧c.length=sz∧R B (lM (xs++ys)) c l:=by
 obtain⟨fuel,hf⟩:=hd
 have U':∃cs,v=.agg cs∧cs.size=P.cellsOf t∧Row.okWide P W .any base t cs:=by
  simp only[Value.okWide,ht]at B7;exact B7
 obtain⟨cs,rfl,L1,P0⟩:=U'
 have N4:(Value.agg cs).cells.toList=cs.toList:=rfl;rw[N4]at hf;by_cases hB:kQ W
 ·obtain⟨ys,c,l,h1,h2,h3,h4⟩:=hO hB H enc fuel _ d p B hf hw xs hx
  exact⟨ys,c,l,h1,⟨_,h2,by simp⟩,h3,h4⟩
 obtain⟨ys,c,l,h1,h2,h3,h4⟩:=hZ H enc fuel _ d p B hf hw (λw hw a l c e=>hB (by
  obtain⟨i,hi⟩:=List.mem_iff_getElem?.1 hw
  obtain⟨ts,_,_,hr⟩:=P0
  obtain⟨u,_,hu⟩:=hr i w (by rw[<-Array.getElem?_toList];exact hi)
  rw[e]at hu;exact NF hu)) xs hx
 exact⟨ys,c,l,h1,⟨_,h2,by simp⟩,h3,h4⟩
theorem PY{t:TypeId}(ht:P.underlying t=some .bool):Opn P W 1 UB t:=by
 intro H enc fuel cs d p B h hw xs hx;obtain⟨b,rfl,e,_⟩:=DataW.trod_bool ht h
 exact⟨[],[.b b],b,by rwa [List.append_nil],⟨rfl,trivial⟩,rfl,rfl⟩
theorem TA:iz UB:=λ_ _ _ _ _ h _=>h
end
def kh{P:Program}{tm:PT AV}{H:Hp}{o:Oper}{v:Value}(hx:(o.op.operands.toList.all λx=>(ev tm x).val?.isSome)=true)(he:ax P (execOp (λx=>bk (ev tm x)) o)=some (.value v))(D0:okV v=true):
  aq P tm H o=.val (ofValue v) H:=by
 unfold aq;rw[hx,he];show aA true _ (aA (okV v) _ _)=_;rw[D0];rfl
def WM(f:IntKind->Int->AC)(H:Hp)(alt:ab)(x:AV):ab:=match x with|.one (.i k a)=>.val (.one (f k a)) H|_=>alt
def oU(p:Int->Int->Prop)[∀a b,Decidable (p a b)](f:IntKind->Int->Int->AC)(H:Hp)(alt:ab)(x y:AV):ab:=
 match x,y with|.one (.i k a),.one (.i k' b)=>if k=k'∧p a b then .val (.one (f k a b)) H else alt|_,_=>alt
def BR{p:Int->Int->Prop}[∀a b,Decidable (p a b)]{f:IntKind->Int->Int->AC}{H:Hp}{alt:ab}{k:IntKind}{a b:Int}(h:p a b):oU p f H alt (.one (.i k a)) (.one (.i k b))=.val (.one (f k a b)) H:=zB0 ⟨rfl,h⟩
variable{P:Program}{tm:PT AV}{H:Hp}{d:Option Tmp}{ty:TypeId}{pos:String}{af:Array Edge}{g:Option (Nat×Bool)}
theorem kP{x:AV}{k:IntKind}{a:Int}(h:x=.one (.i k a)):bk x=.int k a:=by subst h;rfl
theorem Pt{t c:TypeId}{x y:Operand}:aq P tm H ⟨d,.binOp .quo t x y c,ty,pos,af,g⟩=oU (λ_ b=>b≠0) (λk a b=>.i k (k.wrap (a.tdiv b))) H (bH P tm H ⟨d,.binOp .quo t x y c,ty,pos,af,g⟩) (ev tm x) (ev tm y):=by
 unfold oU;split
 ·rename_i k a k' b hx hy
  by_cases h:k=k'∧b≠0
  ·rw[zB0 h];obtain⟨rfl,hb⟩:=h
   refine kh (v:=.int k (k.wrap (a.tdiv b))) ?_ ?_ rfl
   ·show([x,y].all λx=>(ev tm x).val?.isSome)=true
    simp only[List.all_cons,List.all_nil,hx,hy];rfl
   show ax P (Sem.bind (Sem.bind (eqGuard .quo t x y (bk (ev tm x)) (bk (ev tm y))) λ_=>binOp .quo t (bk (ev tm x)) (bk (ev tm y))) λv=>Sem.pure (Next.value v))=_;rw[kP hx,kP hy];have e:binOp .quo t (.int k a) (.int k b)=pure (.int k (k.wrap (a.tdiv b))):=by
    show(if k≠k then _ else Op.intDiv .quo k a b)=_
    rw[zB1 (by simp)];unfold Op.intDiv;rw[zB1 hb]
   show ax P (Sem.bind (binOp .quo t (.int k a) (.int k b)) λv=>Sem.pure (Next.value v))=_;rw[e];rfl
  rw[zB1 h];rfl
 rfl
theorem Ou{t c:TypeId}{x y:Operand}:aq P tm H ⟨d,.binOp .rem t x y c,ty,pos,af,g⟩=oU (λ_ b=>b≠0) (λk a b=>.i k (a.tmod b)) H (bH P tm H ⟨d,.binOp .rem t x y c,ty,pos,af,g⟩) (ev tm x) (ev tm y):=by
 unfold oU;split
 ·rename_i k a k' b hx hy
  by_cases h:k=k'∧b≠0
  ·rw[zB0 h];obtain⟨rfl,hb⟩:=h
   refine kh (v:=.int k (a.tmod b)) ?_ ?_ rfl
   ·show([x,y].all λx=>(ev tm x).val?.isSome)=true
    simp only[List.all_cons,List.all_nil,hx,hy];rfl
   show ax P (Sem.bind (Sem.bind (eqGuard .rem t x y (bk (ev tm x)) (bk (ev tm y))) λ_=>binOp .rem t (bk (ev tm x)) (bk (ev tm y))) λv=>Sem.pure (Next.value v))=_;rw[kP hx,kP hy];have e:binOp .rem t (.int k a) (.int k b)=pure (.int k (a.tmod b)):=by
    show(if k≠k then _ else Op.intDiv .rem k a b)=_
    rw[zB1 (by simp)];unfold Op.intDiv;rw[zB1 hb]
   show ax P (Sem.bind (binOp .rem t (.int k a) (.int k b)) λv=>Sem.pure (Next.value v))=_;rw[e];rfl
  rw[zB1 h];rfl
 rfl
theorem Ir{s t:TypeId}{ks kt:IntKind}{x:Operand}(hs:P.underlying s=some (.int ks))(ht:P.underlying t=some (.int kt)):
  aq P tm H ⟨d,.convert s t x,ty,pos,af,g⟩=WM (λ_ a=>.i kt (kt.wrap a)) H (bH P tm H ⟨d,.convert s t x,ty,pos,af,g⟩) (ev tm x):=by
 unfold WM;split
 ·rename_i k a hx
  refine kh (v:=.int kt (kt.wrap a)) ?_ ?_ rfl
  ·show([x].all λx=>(ev tm x).val?.isSome)=true
   simp only[List.all_cons,List.all_nil,hx];rfl
  show ax P (Sem.bind (convert s t (bk (ev tm x))) λv=>Sem.pure (Next.value v))=_;rw[kP hx,aQ];unfold convert;rw[bc,bK hs];simp only[Option.bind_some];rw[bc,bK ht];rfl
 rfl
theorem Yf{kd:Nat}{k k':IntKind}{a b:Int}{alt:ab}:bp H kd .rem (dX .rem) (.one (.i k a)) (.one (.i k' b)) alt=alt:=by cases k<;>cases k'<;>rfl
theorem YO{kd:Nat}{k k':IntKind}{a b:Int}{alt:ab}:bp H kd .quo (dX .quo) (.one (.i k a)) (.one (.i k' b)) alt=alt:=by cases k<;>cases k'<;>rfl
def Hd(p:Prop):Prop:=p
theorem Hd.out{p:Prop}(h:Hd p):p:=h
theorem qA{a b:Prop}(h:a)(k:b):a∧b:=⟨h,k⟩
inductive WK(E:Env)(r:Option Nat)(Q:ak->aa->Hp->Prop)(B:aa)(H:Hp):Code->Prop
 |ret:Q .ret B H->WK E r Q B H .ret
 |exit (id:Nat):Q (.exit id) B H->WK E r Q B H (.exit id)
 |skip:Q .normal B H->WK E r Q B H .skip
 |xg (z:Code):Q .ret B H->WK E r Q B H (.seq .ret z)
 |oR (id:Nat) (z:Code):Q (.exit id) B H->WK E r Q B H (.seq (.exit id) z)
 |aF (x y z:Code):R1 E r (.seq x (.seq y z)) B H Q->WK E r Q B H (.seq (.seq x y) z)
 |bA (z:Code):R1 E r z B H Q->WK E r Q B H (.seq .skip z)
 |kZ (x z:Code):R1 E r (.seq x z) B H Q->WK E r Q B H (.seq (.scope x) z)
section
variable{E:Env}{r:Option Nat}{c z:Code}{B:aa}{H:Hp}{Q:ak->aa->Hp->Prop}
theorem R1.w(h:WK E r Q B H c):R1 E r c B H Q:=by
 cases h with
 |ret h=>exact R1.ret h
 |exit id h=>exact R1.exit h
 |skip h=>exact R1.skip h
 |xg z h=>exact R1.xg h
 |oR id z h=>exact R1.oR h
 |aF x y z h=>exact R1.aF h
 |bA z h=>exact R1.bA h
 |kZ x z h=>exact R1.kZ h
theorem R1.s_r{id:Nat}{ops:Array Oper}{dr:Bool}(hs:(bif dr then mC false ops else true)=true)(h:∀K:aa->Hp->Prop,(∀B H,R1 E r z B H Q->K B H)->SG false E K (ops.toList.map λo=>gOf ops.toList o.guard) ops.toList B H):R1 E r (.seq (.region id ops dr) z) B H Q:=by
 cases dr with
 |true=>exact R1.FJ hs h
 |false=>exact R1.rR h
theorem R1.e_r{id:Nat}{ops:Array Oper}{dr:Bool}(hs:(bif dr then mC false ops else true)=true)(h:∀K:aa->Hp->Prop,(∀B H,Q .normal B H->K B H)->SG false E K (ops.toList.map λo=>gOf ops.toList o.guard) ops.toList B H):R1 E r (.region id ops dr) B H Q:=by
 cases dr with
 |true=>exact R1.Iq hs h
 |false=>exact R1.Ik h
end
theorem qW{p a b:Prop}(f:p)(hb:b)(e:p->Hd b->a:=by
  intro f hW;repeat' first|(refine R1.w ?_;constructor)|((first|refine R1.s_r (by kernel_rfl) λK hK=>?_|refine R1.e_r (by kernel_rfl) λK hK=>?_);simp only[qB,aK,Nat.reduceLT,Nat.reduceEqDiff,Nat.reduceLeDiff,reduceIte,Nat.reduceAdd,Nat.reduceSub,Nat.reduceMul,Int.reduceLT,Int.reduceLE,Int.reduceBEq,f];refine hK _ _ ?_;clear hK K)
  exact hW.out):a:=e f hb
theorem qV{a b:Prop}(hb:b)(e:Hd b->a:=by
  intro hW;repeat' first|(refine R1.w ?_;constructor)|((first|refine R1.s_r (by kernel_rfl) λK hK=>?_|refine R1.e_r (by kernel_rfl) λK hK=>?_);simp only[qB,aK,Nat.reduceLT,Nat.reduceEqDiff,Nat.reduceLeDiff,reduceIte,Nat.reduceAdd,Nat.reduceSub,Nat.reduceMul,Int.reduceLT,Int.reduceLE,Int.reduceBEq];refine hK _ _ ?_;clear hK K)
  exact hW.out):a:=e hb
theorem qG{p a b:Prop}(f:p)(hb:b)(e:p->Hd b->a:=by
  intro f hW;repeat refine R1.aF ?_
  (first|refine R1.s_r (by kernel_rfl) λK hK=>?_|refine R1.e_r (by kernel_rfl) λK hK=>?_)
  simp only[qB,aK,Nat.reduceLT,Nat.reduceEqDiff,Nat.reduceLeDiff,reduceIte,Nat.reduceAdd,Nat.reduceSub,Nat.reduceMul,Int.reduceLT,Int.reduceLE,Int.reduceBEq,f];revert K
  exact hW.out):a:=e f hb
theorem qH{p a b:Prop}(f:p)(hb:b)(e:p->Hd b->a:=by
  intro f hW;repeat refine R1.aF ?_
  (first|refine R1.ZE (by kernel_rfl) λK hK=>?_|refine R1.e_sg (by kernel_rfl) λK hK=>?_)
  simp only[qB,aK,Nat.reduceLT,Nat.reduceEqDiff,Nat.reduceLeDiff,reduceIte,Nat.reduceAdd,Nat.reduceSub,Nat.reduceMul,Int.reduceLT,Int.reduceLE,Int.reduceBEq,f];revert K
  exact hW.out):a:=e f hb
theorem qS{p a b:Prop}(f:p)(hb:b)(e:p->Hd b->a:=by
  intro f hW;simp only[qB,aK,Nat.reduceLT,Nat.reduceEqDiff,Nat.reduceLeDiff,reduceIte,Nat.reduceAdd,Nat.reduceSub,Nat.reduceMul,Int.reduceLT,Int.reduceLE,Int.reduceBEq,f];exact hW.out):a:=e f hb
theorem qT{a b:Prop}(hb:b)(e:Hd b->a:=by
  intro hW;simp only[qB,aK,Nat.reduceLT,Nat.reduceEqDiff,Nat.reduceLeDiff,reduceIte,Nat.reduceAdd,Nat.reduceSub,Nat.reduceMul,Int.reduceLT,Int.reduceLE,Int.reduceBEq];exact hW.out):a:=e hb
theorem qZ{p a:Prop}(f:p)(e:p->a:=by
  intro f;simp only[qB,aK,Nat.reduceLT,Nat.reduceEqDiff,Nat.reduceLeDiff,reduceIte,Nat.reduceAdd,Nat.reduceSub,Nat.reduceMul,Int.reduceLT,Int.reduceLE,Int.reduceBEq,f]):a:=e f
theorem qU{a:Prop}(e:a:=by simp only[qB,aK,Nat.reduceLT,Nat.reduceEqDiff,Nat.reduceLeDiff,reduceIte,Nat.reduceAdd,Nat.reduceSub,Nat.reduceMul,Int.reduceLT,Int.reduceLE,Int.reduceBEq]):a:=e
theorem qE{a b:Prop}(hb:b)(e:Hd b->a:=by
  intro hW;repeat refine R1.aF ?_
  (first|refine R1.Ac λKx Ky hx hy=>?_|refine R1.yY λKx Ky hx hy=>?_)
  simp only[qB,aK,Nat.reduceLT,Nat.reduceEqDiff,Nat.reduceLeDiff,reduceIte,Nat.reduceAdd,Nat.reduceSub,Nat.reduceMul,Int.reduceLT,Int.reduceLE,Int.reduceBEq];revert Kx Ky
  exact hW.out):a:=e hb
theorem qX{p a b:Prop}(f:p)(hb:b)(e:p->Hd b->a:=by
  intro f hW;repeat refine R1.aF ?_
  (first|refine R1.Ac λKx Ky hx hy=>?_|refine R1.yY λKx Ky hx hy=>?_)
  simp only[qB,aK,Nat.reduceLT,Nat.reduceEqDiff,Nat.reduceLeDiff,reduceIte,Nat.reduceAdd,Nat.reduceSub,Nat.reduceMul,Int.reduceLT,Int.reduceLE,Int.reduceBEq,f]
  (first|refine hx ?_|refine hy ?_)
  exact hW.out):a:=e f hb
theorem qY{a b:Prop}(hb:b)(e:Hd b->a:=by
  intro hW;repeat refine R1.aF ?_
  (first|refine R1.Ac λKx Ky hx hy=>?_|refine R1.yY λKx Ky hx hy=>?_)
  simp only[qB,aK,Nat.reduceLT,Nat.reduceEqDiff,Nat.reduceLeDiff,reduceIte,Nat.reduceAdd,Nat.reduceSub,Nat.reduceMul,Int.reduceLT,Int.reduceLE,Int.reduceBEq]
  (first|refine hx ?_|refine hy ?_)
  exact hW.out):a:=e hb
theorem qp{p:Prop}(e:p:=by simp only[ae,Nat.reduceEqDiff,reduceIte]):p:=e
theorem qd{p q:Prop}(f:q)(e:q->p:=by intro f;simp only[al,f]):p:=e f
theorem ixC{len i:Nat}(h:i<len):∀(H:Hp)(id g off sz:Nat),cC H sz (.one (.o (.sl id g off len sz))) (.one (.i .i64 (i:Int)))=.val (.one (.o (.ptr id g (off+i*sz) sz))) H:=λ_ _ _ _ _=>jb h
theorem ixI{len:Nat}{x:Int}(h0:0≤x)(h:x<len):∀(H:Hp)(id g off sz:Nat),cC H sz (.one (.o (.sl id g off len sz))) (.one (.i .i64 x))=.val (.one (.o (.ptr id g (off+x.toNat*sz) sz))) H:=λ_ _ _ _ _=>xA h0 h
theorem slH{len i:Nat}(h:i≤len):∀(H:Hp)(id g off sz:Nat)(k:IntKind)(alt:ab),cR H sz (.one (.o (.sl id g off len sz))) none (some (.one (.i k (i:Int)))) alt=.val (.one (.o (.sl id g off i sz))) H:=λ_ _ _ _ _ _ _=>qM h
theorem slL{len i:Nat}(h:i≤len):∀(H:Hp)(id g off sz:Nat)(k:IntKind)(alt:ab),cR H sz (.one (.o (.sl id g off len sz))) (some (.one (.i k (i:Int)))) none alt=.val (.one (.o (.sl id g (off+i*sz) (len-i) sz))) H:=λ_ _ _ _ _ _ _=>pX h
theorem oz(z:List AC):jA z 1=z:=vz
section
variable{E:Env}{r:Option Nat}{x y z:Code}{B:aa}{H:Hp}{Q:ak->aa->Hp->Prop}
theorem R1.s_h{id:Nat}{ops:Array Oper}{dr:Bool}(hs:(bif dr then mC false ops else true)=true)(h:∀K:aa->Hp->Prop,Hd (∀B H,R1 E r z B H Q->K B H)->SG false E K (ops.toList.map λo=>gOf ops.toList o.guard) ops.toList B H):R1 E r (.seq (.region id ops dr) z) B H Q:=R1.s_r hs h
theorem R1.e_h{id:Nat}{ops:Array Oper}{dr:Bool}(hs:(bif dr then mC false ops else true)=true)(h:∀K:aa->Hp->Prop,Hd (∀B H,Q .normal B H->K B H)->SG false E K (ops.toList.map λo=>gOf ops.toList o.guard) ops.toList B H):R1 E r (.region id ops dr) B H Q:=R1.e_r hs h
theorem R1.s_hs{id:Nat}{ops:Array Oper}(hs:mC true ops=true)(h:∀K:aa->Hp->Prop,Hd (∀B H,R1 E r z B H Q->K B H)->SG true E K (ops.toList.map λo=>gOf ops.toList o.guard) ops.toList B H):R1 E r (.seq (.region id ops true) z) B H Q:=R1.ZE hs h
theorem R1.YL{c:Operand}(h:∀Kx Ky:Prop,Hd (R1 E r (.seq x z) B H Q->Kx)->Hd (R1 E r (.seq y z) B H Q->Ky)->pb (ev B.tm c) λb=>if b=true then Kx else Ky):R1 E r (.seq (.cond c x y) z) B H Q:=R1.Ac h
theorem R1.YF{c:Operand}(h:∀Kx Ky:Prop,Hd (R1 E r x B H Q->Kx)->Hd (R1 E r y B H Q->Ky)->pb (ev B.tm c) λb=>if b=true then Kx else Ky):R1 E r (.cond c x y) B H Q:=R1.yY h
theorem R1.fb{id:Nat}(h:∀K:ak->aa->Hp->Prop,Hd (∀B H,R1 E r z B H Q->K .normal B H)->Hd (∀B H,R1 E r z B H Q->K (.exit id) B H)->Hd (∀i B H,i≠id->Q (.exit i) B H->K (.exit i) B H)->Hd (∀B H,Q .ret B H->K .ret B H)->R1 E r x B H K):R1 E r (.seq (.block id x) z) B H Q:=R1.ba h
theorem R1.og{id:Nat}(h:∀K:ak->aa->Hp->Prop,Hd (∀B H,Q .normal B H->K .normal B H)->Hd (∀B H,Q .normal B H->K (.exit id) B H)->Hd (∀i B H,i≠id->Q (.exit i) B H->K (.exit i) B H)->Hd (∀B H,Q .ret B H->K .ret B H)->R1 E r x B H K):R1 E r (.block id x) B H Q:=R1.kX h
theorem Hd.ap{K:aa->Hp->Prop}{Z:aa->Hp->Prop}(h:Hd (∀B H,Z B H->K B H)){B:aa}{H:Hp}(k:Z B H):K B H:=h _ _ k
end
theorem zW{p a b:Prop}(f:p)(hb:b)(e:p->Hd b->a:=by
  intro f hW;repeat' first|(refine R1.w ?_;constructor)|((first|refine R1.s_h (by kernel_rfl) λK hK=>?_|refine R1.e_h (by kernel_rfl) λK hK=>?_);simp only[qB,aK,Nat.reduceLT,Nat.reduceEqDiff,Nat.reduceLeDiff,reduceIte,Nat.reduceAdd,Nat.reduceSub,Nat.reduceMul,Int.reduceLT,Int.reduceLE,Int.reduceBEq, *];refine hK.out _ _ ?_;clear hK K)|((first|refine R1.YL λKx Ky hx hy=>?_|refine R1.YF λKx Ky hx hy=>?_);simp only[qB,aK,Nat.reduceLT,Nat.reduceEqDiff,Nat.reduceLeDiff,reduceIte,Nat.reduceAdd,Nat.reduceSub,Nat.reduceMul,Int.reduceLT,Int.reduceLE,Int.reduceBEq, *];(first|refine hx.out ?_|refine hy.out ?_);clear hx hy Kx Ky)
  exact hW.out):a:=e f hb
theorem zG{p a b:Prop}(f:p)(hb:b)(e:p->Hd b->a:=by
  intro f hW;repeat refine R1.aF ?_
  (first|refine R1.s_h (by kernel_rfl) λK hK=>?_|refine R1.e_h (by kernel_rfl) λK hK=>?_)
  simp only[qB,aK,Nat.reduceLT,Nat.reduceEqDiff,Nat.reduceLeDiff,reduceIte,Nat.reduceAdd,Nat.reduceSub,Nat.reduceMul,Int.reduceLT,Int.reduceLE,Int.reduceBEq, *];revert K
  exact hW.out):a:=e f hb
theorem zH{p a b:Prop}(f:p)(hb:b)(e:p->Hd b->a:=by
  intro f hW;repeat refine R1.aF ?_
  (first|refine R1.s_hs (by kernel_rfl) λK hK=>?_|refine R1.e_hs (by kernel_rfl) λK hK=>?_)
  simp only[qB,aK,Nat.reduceLT,Nat.reduceEqDiff,Nat.reduceLeDiff,reduceIte,Nat.reduceAdd,Nat.reduceSub,Nat.reduceMul,Int.reduceLT,Int.reduceLE,Int.reduceBEq, *];revert K
  exact hW.out):a:=e f hb
theorem zS{p a b:Prop}(f:p)(hb:b)(e:p->Hd b->a:=by
  intro f hW;simp only[qB,aK,Nat.reduceLT,Nat.reduceEqDiff,Nat.reduceLeDiff,reduceIte,Nat.reduceAdd,Nat.reduceSub,Nat.reduceMul,Int.reduceLT,Int.reduceLE,Int.reduceBEq, *];exact hW.out):a:=e f hb
theorem zK{p a b:Prop}(f:p)(hb:b)(e:p->Hd b->a:=by
  intro f hW;try simp only[qB,aK,Nat.reduceLT,Nat.reduceEqDiff,Nat.reduceLeDiff,reduceIte,Nat.reduceAdd,Nat.reduceSub,Nat.reduceMul,Int.reduceLT,Int.reduceLE,Int.reduceBEq, *]
  refine Hd.ap (Z:=?_) ?_ ?_;rotate_left
  ·assumption
  repeat' first|(refine R1.w ?_;constructor)|((first|refine R1.s_h (by kernel_rfl) λK hK=>?_|refine R1.e_h (by kernel_rfl) λK hK=>?_);simp only[qB,aK,Nat.reduceLT,Nat.reduceEqDiff,Nat.reduceLeDiff,reduceIte,Nat.reduceAdd,Nat.reduceSub,Nat.reduceMul,Int.reduceLT,Int.reduceLE,Int.reduceBEq, *];refine hK.out _ _ ?_;clear hK K)|((first|refine R1.YL λKx Ky hx hy=>?_|refine R1.YF λKx Ky hx hy=>?_);simp only[qB,aK,Nat.reduceLT,Nat.reduceEqDiff,Nat.reduceLeDiff,reduceIte,Nat.reduceAdd,Nat.reduceSub,Nat.reduceMul,Int.reduceLT,Int.reduceLE,Int.reduceBEq, *];(first|refine hx.out ?_|refine hy.out ?_);clear hx hy Kx Ky)
  exact hW.out):a:=e f hb
theorem zI{p a b c:Prop}(f:p)(hb:b)(hc:c)(e:p->Hd b->Hd c->a:=by
  intro f hW hV;repeat refine R1.aF ?_
  (first|refine R1.YL λKx Ky hx hy=>?_|refine R1.YF λKx Ky hx hy=>?_)
  simp only[qB,aK,Nat.reduceLT,Nat.reduceEqDiff,Nat.reduceLeDiff,reduceIte,Nat.reduceAdd,Nat.reduceSub,Nat.reduceMul,Int.reduceLT,Int.reduceLE,Int.reduceBEq, *];refine iy ?_ ?_
  ·refineλhq=>hx.out ?_
   revert hq
   exact hW.out
  refineλhq=>hy.out ?_
  revert hq
  exact hV.out):a:=e f hb hc
theorem zL{p:Prop}(e:p:=by repeat' (first|(simp only[ae,Nat.reduceEqDiff,reduceIte,az,al, *];first|done|rfl)|refine⟨?_,?_⟩)):p:=e
theorem qe{p:Prop}(e:p:=by first|(simp only[al, *];done)|rfl):p:=e
theorem arQ:(∀(P:Program)(tm:PT AV)(H:Hp)(d:Option Tmp)(ty:TypeId)(pos:String)(af:Array Edge)(g:Option (Nat×Bool))(t c:TypeId)(x y:Operand),aq P tm H ⟨d,.binOp .quo t x y c,ty,pos,af,g⟩=oU (λ_ b=>b≠0) (λk a b=>.i k (k.wrap (a.tdiv b))) H (bH P tm H ⟨d,.binOp .quo t x y c,ty,pos,af,g⟩) (ev tm x) (ev tm y)) ∧
  (∀(P:Program)(tm:PT AV)(H:Hp)(d:Option Tmp)(ty:TypeId)(pos:String)(af:Array Edge)(g:Option (Nat×Bool))(t c:TypeId)(x y:Operand),aq P tm H ⟨d,.binOp .rem t x y c,ty,pos,af,g⟩=oU (λ_ b=>b≠0) (λk a b=>.i k (a.tmod b)) H (bH P tm H ⟨d,.binOp .rem t x y c,ty,pos,af,g⟩) (ev tm x) (ev tm y)) ∧
  (∀(H:Hp)(kd:Nat)(k k':IntKind)(a b:Int)(alt:ab),bp H kd .quo (dX .quo) (.one (.i k a)) (.one (.i k' b)) alt=alt)∧(∀(H:Hp)(kd:Nat)(k k':IntKind)(a b:Int)(alt:ab),bp H kd .rem (dX .rem) (.one (.i k a)) (.one (.i k' b)) alt=alt):=
 ⟨λ_ _ _ _ _ _ _ _ _ _ _ _=>Pt,λ_ _ _ _ _ _ _ _ _ _ _ _=>Ou,λ_ _ _ _ _ _ _=>YO,λ_ _ _ _ _ _ _=>Yf⟩
theorem quoI{b:Int}(h:b≠0):∀(H:Hp)(alt:ab)(k:IntKind)(a:Int),oU (λ_ b=>b≠0) (λk a b=>.i k (k.wrap (a.tdiv b))) H alt (.one (.i k a)) (.one (.i k b))=.val (.one (.i k (k.wrap (a.tdiv b)))) H:=λ_ _ _ _=>BR h
theorem remI{b:Int}(h:b≠0):∀(H:Hp)(alt:ab)(k:IntKind)(a:Int),oU (λ_ b=>b≠0) (λk a b=>.i k (a.tmod b)) H alt (.one (.i k a)) (.one (.i k b))=.val (.one (.i k (a.tmod b))) H:=λ_ _ _ _=>BR h
theorem xF{H:Hp}{v:AC}{sz n:Nat}{cells:List AC}(hv:SlC H v sz n cells):jt H sz (.one v)=some (n,cells):=by
 rcases hv with⟨hc,⟨rfl,rfl⟩|⟨id,g,off,rfl,hid,row,hg,hle,hcut⟩⟩
 ·rw[Nat.zero_mul]at hc;have hc:=List.eq_nil_of_length_eq_zero hc;subst hc;rfl
 rw[sH hg hle,hcut]
theorem Va{P:Program}{H:Hp}{t e:TypeId}{sz by_ n:Nat}{z:Value}{v:AC}{cells:List AC}(he:bt P t=some (e,sz))(hb:cK P e=some by_)(hz:ay P e=some z)(B2:(ofValue z).cells.length=sz)(L1:sz≠0)
  (hv:SlC H v sz n cells) (h2:n≤140737488355328∧n*by_≤140737488355328):∃v' H' r',bh P H t (.one (.o .nilS)) (.one v)=.val (.one v') H'∧dg H' v' e sz n cells r'∧Gr H H'∧∀i,r'=some i->H.nx≤i:=by
 have ha:=uz he hb hz B2 L1 (xF hv) h2.1 h2.2;rcases Nat.eq_zero_or_pos n with h0|h0
 ·refine⟨.o .nilS,H,none,ha.trans (zB0 h0),.inl ⟨rfl,h0,?_,rfl⟩,Fr.refl _,λ_ h=>by cases h⟩
  have:=hv.1;rw[h0,Nat.zero_mul]at this;exact List.eq_nil_of_length_eq_zero this
 exact⟨.o (.sl H.nx 0 0 n sz),H.new (.arr cells e 0 0),some H.nx,ha.trans (zB1 (by omega)),.inr ⟨H.nx,0,0,rfl,rfl,aB rfl,zA1 _,hv.1,zA6 _⟩,(Fr.refl _).new _,λi h=>by cases h;exact zA1 _⟩
theorem yT{P:Program}{H:Hp}{t e:TypeId}{sz by_ n id:Nat}{z:Value}{v:AC}{cells:List AC}(he:bt P t=some (e,sz))(hb:cK P e=some by_)(hz:ay P e=some z)(B2:(ofValue z).cells.length=sz)(L1:sz≠0)
  (hg:H.get id=some (.arr [] e 0 0)) (hid:id<H.nx) (hv:SlC H v sz n cells) (h2:n≤140737488355328∧n*by_≤140737488355328):∃v' H',bh P H t (.one (.o (.sl id 0 0 0 sz))) (.one v)=.val (.one v') H'∧dg H' v' e sz n cells (some id)∧Fr (λi=>i=id) H H':=by
 have ho:dg H (.o (.sl id 0 0 0 sz)) e sz 0 [] (some id):=.inr ⟨id,0,0,rfl,rfl,hg,zA1 _,by rw[Nat.zero_mul];rfl,hid⟩;have hs:=xF hv;rcases Nat.eq_zero_or_pos n with h0|h0
 ·subst h0;have hc:cells=[]:=by
   have:=hv.1;rw[Nat.zero_mul]at this;exact List.eq_nil_of_length_eq_zero this
  subst hc;refine⟨.o (.sl id 0 0 0 sz),H,?_,ho,Fr.refl _⟩
  have e1:Nat.beq sz 0=false:=by
   cases h:Nat.beq sz 0 with
   |false=>rfl
   |true=>exact absurd (zA3 h) L1
  have e3:both (!Nat.beq sz 0) (Nat.beq (bq (ofValue z).cells) sz)=true:=by rw[e1,bj,B2,Nat.beq_refl];rfl
  have step:bh P H t (.one (.o (.sl id 0 0 0 sz))) (.one v)=dp H e sz by_ 0 [] (.one (.o (.sl id 0 0 0 sz))):=by
   unfold bh;simp only[he,hb,hz,nd,e3,aA,hs]
  rw[step];show nh (H.get id) _ _=_;rw[hg];show aA (both (Nat.beq sz sz) (both (Nat.beq e e) (both (Nat.ble 0 0) (both (Nat.ble 0 0) (both (Nat.ble (Nat.add 0 (Nat.mul 0 sz)) (bq ([]:List AC))) (both (Nat.ble (Nat.add 0 0) 140737488355328) (Nat.ble (Nat.mul (Nat.add 0 0) by_) 140737488355328))))))) _
   (Eng.ifE (Nat.beq 0 0) _ (Eng.ifE (both (Nat.beq 0 0) (both (Nat.beq 0 0) (Nat.beq (Nat.mul 0 sz) (bq ([]:List AC))))) _ _))=_
  have z1:Nat.mul 0 sz=0:=Nat.zero_mul sz;have z2:Nat.mul (Nat.add 0 0) by_=0:=Nat.zero_mul by_;rw[Nat.beq_refl,Nat.beq_refl,z1,z2];rfl
 obtain⟨v',H',r',h1,h3,h4,h5⟩:=wy (n:=0) he hb hz B2 L1 ho hs (by omega) hv.1 (by omega) (by rw[Nat.zero_add];exact h2.2)
 rw[Nat.zero_add,List.nil_append]at h3;rcases h5 with h5|⟨h5,_⟩
 ·cases h5
  exact⟨v',H',h1,h3,h4.mono λi h=>by cases h;rfl⟩
 cases h5
theorem IG{H:Hp}{id g off n sz:Nat}{alt:ab}{f:BF}:bp H 1 .eql f (.one (.o (.sl id g off n sz))) (.one (.o .nilS)) alt=.val (.one (.b false)) H:=rfl
theorem Sk{H:Hp}{alt:ab}{f:BF}:bp H 1 .eql f (.one (.o .nilS)) (.one (.o .nilS)) alt=alt:=rfl
def HX(r:Bool)(H:Hp)(alt:ab)(x y:AV):ab:=
 match x,y with
 |.one (.o .nilS),.one (.o .nilS)=>.val (.one (.b r)) H
 |_,_=>alt
theorem UQ{r:Bool}{H:Hp}{alt:ab}:HX r H alt (.one (.o .nilS)) (.one (.o .nilS))=.val (.one (.b r)) H:=rfl
theorem JT{P:Program}{tm:PT AV}{H:Hp}{d:Option Tmp}{t c:TypeId}{et:TypeId}{x y:Operand}{ty:TypeId}{pos:String}{af:Array Edge}{g:Option (Nat×Bool)}(h:P.underlying t=some (.slice et)):
  aq P tm H ⟨d,.binOp .eql t x y c,ty,pos,af,g⟩=HX true H (bH P tm H ⟨d,.binOp .eql t x y c,ty,pos,af,g⟩) (ev tm x) (ev tm y):=by
 unfold HX;split
 ·rename_i hx hy
  have vx:(ev tm x).val?=some (.slice none 0 0):=by rw[hx];rfl
  have vy:(ev tm y).val?=some (.slice none 0 0):=by rw[hy];rfl
  have dx:bk (ev tm x)=.slice none 0 0:=by unfold bk;rw[vx]
  have dy:bk (ev tm y)=.slice none 0 0:=by unfold bk;rw[vy]
  unfold aq;have e1:((⟨d,.binOp .eql t x y c,ty,pos,af,g⟩:Oper).op.operands.toList.all λx=>(ev tm x).val?.isSome)=true:=by
   show([x,y].all λx=>(ev tm x).val?.isSome)=true
   simp only[List.all_cons,List.all_nil,vx,vy];rfl
  rw[e1];have e2:ax P (execOp (λx=>bk (ev tm x)) ⟨d,.binOp .eql t x y c,ty,pos,af,g⟩)=some (.value (.bool true)):=by
   show ax P (Sem.bind (Sem.bind (eqGuard .eql t x y (bk (ev tm x)) (bk (ev tm y))) λ_=>binOp .eql t (bk (ev tm x)) (bk (ev tm y))) λv=>Sem.pure (Next.value v))=_;rw[dx,dy,aQ,aQ];have hg:eqGuard .eql t x y (.slice none 0 0) (.slice none 0 0)=pure ():=rfl;rw[hg];show((ax P (Sem.bind (Op.equalIn 10000 t (.slice none 0 0) (.slice none 0 0)) λr=>Sem.pure (Value.bool r)))).bind _=_
   have he:ax P (Op.equalIn 10000 t (.slice none 0 0) (.slice none 0 0))=some true:=by
    unfold Op.equalIn;rw[bc,bK h];rfl
   rw[aQ,he];rfl
  rw[e2];rfl
 rfl
theorem Lv{P:Program}{t e:TypeId}(h1:aR P t=1)(h:P.underlying t=some (.slice e)):aR P t=1∧(∀(H:Hp)(alt:ab)(f:BF),bp H 1 .eql f (.one (.o .nilS)) (.one (.o .nilS)) alt=alt) ∧
  (∀(H:Hp)(id g off n sz:Nat)(alt:ab)(f:BF),bp H 1 .eql f (.one (.o (.sl id g off n sz))) (.one (.o .nilS)) alt=.val (.one (.b false)) H) ∧
  (∀(tm:PT AV)(H:Hp)(d:Option Tmp)(x y:Operand)(c ty:TypeId)(pos:String)(af:Array Edge)(g:Option (Nat×Bool)),aq P tm H ⟨d,.binOp .eql t x y c,ty,pos,af,g⟩=HX true H (bH P tm H ⟨d,.binOp .eql t x y c,ty,pos,af,g⟩) (ev tm x) (ev tm y)) ∧
  (∀(H:Hp)(alt:ab),HX true H alt (.one (.o .nilS)) (.one (.o .nilS))=.val (.one (.b true)) H):=
 ⟨h1,λ_ _ _=>Sk,λ_ _ _ _ _ _ _ _=>IG,λ_ _ _ _ _ _ _ _ _ _=>JT h,λ_ _=>UQ⟩
theorem R1.rA{E:Env}{r:Option Nat}{x z:Code}{A:aa}{H:Hp}{Q:ak->aa->Hp->Prop}(I:aa->Hp->Prop)
  (h:∀K:ak->aa->Hp->Prop,Hd (∀B H,I B H->K .normal B H)->Hd (∀i B H,Q (.exit i) B H->K (.exit i) B H)->Hd (∀B H,Q .ret B H->K .ret B H)->R1 E r x A H K)
  (h2:∀B H,I B H->R1 E r z B H Q):R1 E r (.seq x z) A H Q:=
 R1.seq ((h (Thn I Q) (λ_ _ h=>h) (λ_ _ _ h=>h) (λ_ _ h=>h)).mono λe B H' hq=>by
  cases e with
  |normal=>exact h2 _ _ hq
  |exit i=>exact hq
  |ret=>exact hq)
def CW(op:BinOp)(k:IntKind)(a b:Int):Int:=
 match op with
 |.and=>k.wrap ((BitVec.ofInt k.bits a &&& BitVec.ofInt k.bits b).toNat)
 |_=>k.wrap ((BitVec.ofInt k.bits a ^^^ BitVec.ofInt k.bits b).toNat)
def yf(p:Int->Int->Prop)[∀a b,Decidable (p a b)](f:IntKind->Int->Int->AC)(H:Hp)(alt:ab)(x y:AV):ab:=
 match x,y with|.one (.i k a),.one (.i _ b)=>if p a b then .val (.one (f k a b)) H else alt|_,_=>alt
theorem VO{p:Int->Int->Prop}[∀a b,Decidable (p a b)]{f:IntKind->Int->Int->AC}{H:Hp}{alt:ab}{k k':IntKind}{a b:Int}(h:p a b):yf p f H alt (.one (.i k a)) (.one (.i k' b))=.val (.one (f k a b)) H:=zB0 h
section
variable{P:Program}{tm:PT AV}{H:Hp}{d:Option Tmp}{ty:TypeId}{pos:String}{af:Array Edge}{g:Option (Nat×Bool)}
theorem Ae{t c:TypeId}{x y:Operand}{op:BinOp}(ho:op=.and∨op=.xor):aq P tm H ⟨d,.binOp op t x y c,ty,pos,af,g⟩=oU (λ_ _=>True) (λk a b=>.i k (CW op k a b)) H (bH P tm H ⟨d,.binOp op t x y c,ty,pos,af,g⟩) (ev tm x) (ev tm y):=by
 unfold oU;split
 ·rename_i k a k' b hx hy
  by_cases h:k=k'∧True
  ·rw[zB0 h];obtain⟨rfl,-⟩:=h
   refine kh (v:=.int k (CW op k a b)) ?_ ?_ rfl
   ·show([x,y].all λx=>(ev tm x).val?.isSome)=true
    simp only[List.all_cons,List.all_nil,hx,hy];rfl
   have e:binOp op t (.int k a) (.int k b)=pure (.int k (CW op k a b)):=by
    rcases ho with rfl|rfl
    ·show(if k≠k then _ else Op.intBits .and k a b)=_
     rw[zB1 (by simp)];rfl
    show(if k≠k then _ else Op.intBits .xor k a b)=_
    rw[zB1 (by simp)];rfl
   have eg:eqGuard op t x y (bk (ev tm x)) (bk (ev tm y))=pure ():=by
    rcases ho with rfl|rfl<;>rfl
   show ax P (Sem.bind (Sem.bind (eqGuard op t x y (bk (ev tm x)) (bk (ev tm y))) λ_=>binOp op t (bk (ev tm x)) (bk (ev tm y))) λv=>Sem.pure (Next.value v))=_;rw[eg,kP hx,kP hy];show ax P (Sem.bind (binOp op t (.int k a) (.int k b)) λv=>Sem.pure (Next.value v))=_;rw[e];rfl
  rw[zB1 h];rfl
 rfl
def shF(op:BinOp)(k:IntKind)(a b:Int):Int:=
 match op with
 |.shl=>k.wrap (a*2^(min b.toNat k.bits))
 |_=>a.fdiv (2^(min b.toNat k.bits))
theorem sZ{t c:TypeId}{x y:Operand}{op:BinOp}(ho:op=.shl∨op=.shr):aq P tm H ⟨d,.binOp op t x y c,ty,pos,af,g⟩=yf (λ_ b=>0≤b) (λk a b=>.i k (shF op k a b)) H (bH P tm H ⟨d,.binOp op t x y c,ty,pos,af,g⟩) (ev tm x) (ev tm y):=by
 unfold yf;split
 ·rename_i k a k' b hx hy
  by_cases h:0≤b
  ·rw[zB0 h];refine kh (v:=.int k (shF op k a b)) ?_ ?_ rfl
   ·show([x,y].all λx=>(ev tm x).val?.isSome)=true
    simp only[List.all_cons,List.all_nil,hx,hy];rfl
   have e:binOp op t (.int k a) (.int k' b)=pure (.int k (shF op k a b)):=by
    rcases ho with rfl|rfl
    ·show Op.shift .shl k a k' b=_;unfold Op.shift;rw[zB1 (by omega)];rfl
    show Op.shift .shr k a k' b=_;unfold Op.shift;rw[zB1 (by omega)];rfl
   have eg:eqGuard op t x y (bk (ev tm x)) (bk (ev tm y))=pure ():=by
    rcases ho with rfl|rfl<;>rfl
   show ax P (Sem.bind (Sem.bind (eqGuard op t x y (bk (ev tm x)) (bk (ev tm y))) λ_=>binOp op t (bk (ev tm x)) (bk (ev tm y))) λv=>Sem.pure (Next.value v))=_;rw[eg,kP hx,kP hy];show ax P (Sem.bind (binOp op t (.int k a) (.int k' b)) λv=>Sem.pure (Next.value v))=_;rw[e];rfl
  rw[zB1 h];rfl
 rfl
end
theorem Yg{H:Hp}{kd:Nat}{k k':IntKind}{a b:Int}{alt:ab}:bp H kd .and (dX .and) (.one (.i k a)) (.one (.i k' b)) alt=alt:=by cases k<;>cases k'<;>rfl
theorem XQ{H:Hp}{kd:Nat}{k k':IntKind}{a b:Int}{alt:ab}:bp H kd .xor (dX .xor) (.one (.i k a)) (.one (.i k' b)) alt=alt:=by cases k<;>cases k'<;>rfl
theorem Yx{H:Hp}{kd:Nat}{k k':IntKind}{a b:Int}{alt:ab}:bp H kd .shl (dX .shl) (.one (.i k a)) (.one (.i k' b)) alt=alt:=by cases k<;>cases k'<;>rfl
theorem YP{H:Hp}{kd:Nat}{k k':IntKind}{a b:Int}{alt:ab}:bp H kd .shr (dX .shr) (.one (.i k a)) (.one (.i k' b)) alt=alt:=by cases k<;>cases k'<;>rfl
theorem Zd:(∀(P:Program)(tm:PT AV)(H:Hp)(d:Option Tmp)(ty:TypeId)(pos:String)(af:Array Edge)(g:Option (Nat×Bool))(t c:TypeId)(x y:Operand),aq P tm H ⟨d,.binOp .and t x y c,ty,pos,af,g⟩=oU (λ_ _=>True) (λk a b=>.i k (CW .and k a b)) H (bH P tm H ⟨d,.binOp .and t x y c,ty,pos,af,g⟩) (ev tm x) (ev tm y)) ∧
  (∀(P:Program)(tm:PT AV)(H:Hp)(d:Option Tmp)(ty:TypeId)(pos:String)(af:Array Edge)(g:Option (Nat×Bool))(t c:TypeId)(x y:Operand),aq P tm H ⟨d,.binOp .xor t x y c,ty,pos,af,g⟩=oU (λ_ _=>True) (λk a b=>.i k (CW .xor k a b)) H (bH P tm H ⟨d,.binOp .xor t x y c,ty,pos,af,g⟩) (ev tm x) (ev tm y)) ∧
  (∀(P:Program)(tm:PT AV)(H:Hp)(d:Option Tmp)(ty:TypeId)(pos:String)(af:Array Edge)(g:Option (Nat×Bool))(t c:TypeId)(x y:Operand),aq P tm H ⟨d,.binOp .shl t x y c,ty,pos,af,g⟩=yf (λ_ b=>0≤b) (λk a b=>.i k (shF .shl k a b)) H (bH P tm H ⟨d,.binOp .shl t x y c,ty,pos,af,g⟩) (ev tm x) (ev tm y)) ∧
  (∀(P:Program)(tm:PT AV)(H:Hp)(d:Option Tmp)(ty:TypeId)(pos:String)(af:Array Edge)(g:Option (Nat×Bool))(t c:TypeId)(x y:Operand),aq P tm H ⟨d,.binOp .shr t x y c,ty,pos,af,g⟩=yf (λ_ b=>0≤b) (λk a b=>.i k (shF .shr k a b)) H (bH P tm H ⟨d,.binOp .shr t x y c,ty,pos,af,g⟩) (ev tm x) (ev tm y)) ∧
  (∀(H:Hp)(kd:Nat)(k k':IntKind)(a b:Int)(alt:ab),bp H kd .and (dX .and) (.one (.i k a)) (.one (.i k' b)) alt=alt)∧(∀(H:Hp)(kd:Nat)(k k':IntKind)(a b:Int)(alt:ab),bp H kd .xor (dX .xor) (.one (.i k a)) (.one (.i k' b)) alt=alt) ∧
  (∀(H:Hp)(kd:Nat)(k k':IntKind)(a b:Int)(alt:ab),bp H kd .shl (dX .shl) (.one (.i k a)) (.one (.i k' b)) alt=alt)∧(∀(H:Hp)(kd:Nat)(k k':IntKind)(a b:Int)(alt:ab),bp H kd .shr (dX .shr) (.one (.i k a)) (.one (.i k' b)) alt=alt) ∧
  (∀(H:Hp)(alt:ab)(k:IntKind)(a b:Int),oU (λ_ _=>True) (λk a b=>.i k (CW .and k a b)) H alt (.one (.i k a)) (.one (.i k b))=.val (.one (.i k (CW .and k a b))) H)∧(∀(H:Hp)(alt:ab)(k:IntKind)(a b:Int),oU (λ_ _=>True) (λk a b=>.i k (CW .xor k a b)) H alt (.one (.i k a)) (.one (.i k b))=.val (.one (.i k (CW .xor k a b))) H):=
 ⟨λ_ _ _ _ _ _ _ _ _ _ _ _=>Ae (.inl rfl),λ_ _ _ _ _ _ _ _ _ _ _ _=>Ae (.inr rfl),λ_ _ _ _ _ _ _ _ _ _ _ _=>sZ (.inl rfl),λ_ _ _ _ _ _ _ _ _ _ _ _=>sZ (.inr rfl),
  λ_ _ _ _ _ _ _=>Yg,λ_ _ _ _ _ _ _=>XQ,λ_ _ _ _ _ _ _=>Yx,λ_ _ _ _ _ _ _=>YP,λ_ _ _ _ _=>BR trivial,λ_ _ _ _ _=>BR trivial⟩
theorem shI{op:BinOp}{b:Int}(h:0≤b):∀(H:Hp)(alt:ab)(k k':IntKind)(a:Int),yf (λ_ b=>0≤b) (λk a b=>.i k (shF op k a b)) H alt (.one (.i k a)) (.one (.i k' b))=.val (.one (.i k (shF op k a b))) H:=λ_ _ _ _ _=>VO h
theorem Ud(n:Int):IntKind.u64.wrap n=n%18446744073709551616:=by
 unfold IntKind.wrap;have h1:IntKind.signed .u64=false:=rfl;simp only[h1,Bool.false_and,Bool.false_eq_true,if_false];rfl
theorem PL{x:Nat}(h:x<18446744073709551616):IntKind.u64.wrap (x:Int)=(x:Int):=by
 rw[Ud];omega
theorem SD{x k:Nat}(hk:k≤64):shF .shr .u64 (x:Int) (k:Int)=((x/2^k:Nat):Int):=by
 show((x:Int)).fdiv (2^(min (k:Int).toNat 64))=_
 rw[Int.toNat_natCast,Nat.min_eq_left hk];have e:(2:Int)^k=((2^k:Nat):Int):=(Int.natCast_pow 2 k).symm;rw[e,Int.fdiv_eq_ediv_of_nonneg _ (Int.natCast_nonneg _),<-Int.natCast_ediv]
def RA(E:Env)(r:Option Nat)(c:Code)(A:aa)(H:Hp)(Q:ak->aa->Hp->Prop):Prop:=∃n l,(codeF E c).run (eval E n) r A H=.ok l∧l≠[]∧∀x∈l,Q x.1 x.2.1 x.2.2
def OA(E:Env)(l:List OF)(A:aa)(H:Hp)(Q:aa->Hp->Prop):Prop:=∃n o,dI E (eval E n) l A H=.ok o∧o≠[]∧∀x∈o,Q x.1 x.2
theorem iC{α β:Type}{f:Nat->α->R β}(hf:∀{n k:Nat} (x:α),n≤k->RLe (f n x) (f k x)){Q:β->Prop}:∀l:List α,l≠[]->(∀x∈l,∃n o,f n x=.ok o∧o≠[]∧∀y∈o,Q y)->∃n o,(∀k,n≤k->cr (f k) l=.ok o)∧o≠[]∧∀y∈o,Q y
 |[],h,_=>absurd rfl h
 |[x],_,h=>by
  obtain⟨n,o,h1,h2,h3⟩:=h x (List.mem_singleton.2 rfl)
  exact⟨n,o,λk hk=>hf x hk _ h1,h2,h3⟩
 |x::y::l,_,h=>by
  obtain⟨n,o,h1,h2,h3⟩:=h x (List.mem_cons_self ..)
  obtain⟨n',o',N5,F8,r_⟩:=iC hf (y::l) (by simp) λz hz=>h z (List.mem_cons_of_mem _ hz)
  refine⟨max n n',o++o',λk hk=>?_,by simp[h2],λz hz=>(List.mem_append.1 hz).elim (h3 z) (r_ z)⟩
  have a1:=hf x (show n≤k by omega) _ h1;have a2:=N5 k (by omega);show xf (f k x) (cr (f k) (y::l))=_;rw[a1,a2];rfl
section
variable{E:Env}{r:Option Nat}{A:aa}{H:Hp}{Q:ak->aa->Hp->Prop}
theorem RA.of{c:Code}(h:R1 E r c A H Q):RA E r c A H Q:=by
 obtain⟨n,e,A1,H1,h1,h2⟩:=h
 exact⟨n,_,h1,by simp,λx hx=>by rw[List.mem_singleton.1 hx];exact h2⟩
theorem RA.mono{c:Code}{Q':ak->aa->Hp->Prop}(h:RA E r c A H Q)(hq:∀e A' H',Q e A' H'->Q' e A' H'):RA E r c A H Q':=
 let ⟨n,l,h1,h2,h3⟩:=h;⟨n,l,h1,h2,λx hx=>hq _ _ _ (h3 x hx)⟩
theorem OA.mono{l:List OF}{Q Q':aa->Hp->Prop}(h:OA E l A H Q)(hq:∀A' H',Q A' H'->Q' A' H'):OA E l A H Q':=
 let ⟨n,o,h1,h2,h3⟩:=h;⟨n,o,h1,h2,λx hx=>hq _ _ (h3 x hx)⟩
theorem OA.of{l:List OF}{Q:aa->Hp->Prop}(h:O1 E l A H Q):OA E l A H Q:=by
 obtain⟨n,A1,H1,h1,h2⟩:=h
 exact⟨n,_,h1,by simp,λx hx=>by rw[List.mem_singleton.1 hx];exact h2⟩
theorem RA.skip(h:Q .normal A H):RA E r .skip A H Q:=RA.of (R1.skip h)
theorem RA.exit{id:Nat}(h:Q (.exit id) A H):RA E r (.exit id) A H Q:=RA.of (R1.exit h)
theorem RA.ret(h:Q .ret A H):RA E r .ret A H Q:=RA.of (R1.ret h)
theorem RA.scope{c:Code}(h:RA E r c A H Q):RA E r (.scope c) A H Q:=h
theorem RA.seq{x y:Code}(h:RA E r x A H (Thn (λA H=>RA E r y A H Q) Q)):RA E r (.seq x y) A H Q:=by
 obtain⟨n,l,h1,h2,h3⟩:=h
 have key:=iC (f:=λk z=>rZ (codeF E y) (eval E k) r z) (λ{n k}z hk=>Ca (ef (dh E hk) y r _ _) (λ_=>RLe.refl _) (RLe.refl _)) (Q:=λz=>Q z.1 z.2.1 z.2.2) l h2 λz hz=>by
  have hq:=h3 z hz;obtain⟨e,A1,H1⟩:=z
  cases e with
  |normal=>exact hq
  |exit i=>exact⟨0,_,rfl,by simp,λy hy=>by rw[List.mem_singleton.1 hy];exact hq⟩
  |ret=>exact⟨0,_,rfl,by simp,λy hy=>by rw[List.mem_singleton.1 hy];exact hq⟩
 obtain⟨n',o,k1,k2,k3⟩:=key
 refine⟨max n n',o,?_,k2,k3⟩
 have a1:=ef (dh E (Nat.le_max_left n n')) x r A H _ h1;show((codeF E x).run (eval E (max n n')) r A H).bind (rZ (codeF E y) (eval E (max n n')) r)=_
 rw[a1];exact k1 _ (Nat.le_max_right n n')
theorem RA.cond{c:Operand}{x y:Code}{b:Bool}(hc:ev A.tm c=.one (.b b))(h:RA E r (if b=true then x else y) A H Q):RA E r (.cond c x y) A H Q:=by
 obtain⟨n,l,h1,h2⟩:=h
 refine⟨n,l,?_,h2⟩
 show dO (ev A.tm c) (.bad "cond") (λb=>Eng.ifE b ((codeF E x).run (eval E n) r A H) ((codeF E y).run (eval E n) r A H))=_
 rw[hc];cases b with
 |true=>exact h1
 |false=>exact h1
theorem IX(id:Nat)(e:ak)(A1:aa)(H1:Hp){Q:ak->aa->Hp->Prop}(h:InB id Q e A1 H1):∃e2,jE id (e,A1,H1)=.ok [(e2,A1,H1)]∧Q e2 A1 H1:=by
 cases e with
 |normal=>exact⟨.normal,rfl,h⟩
 |ret=>exact⟨.ret,rfl,h⟩
 |exit i=>
  have h':if i=id then Q .normal A1 H1 else Q (.exit i) A1 H1:=h;by_cases hi:i=id
  ·rw[zB0 hi]at h';refine⟨.normal,?_,h'⟩
   show Eng.ifE (Nat.beq i id) (R.ok [((.normal:ak),A1,H1)]) (R.ok [(.exit i,A1,H1)])=_;rw[hi,Nat.beq_refl];rfl
  rw[zB1 hi]at h';refine⟨.exit i,?_,h'⟩
  show Eng.ifE (Nat.beq i id) (R.ok [((.normal:ak),A1,H1)]) (R.ok [(.exit i,A1,H1)])=_;have:Nat.beq i id=false:=by
   cases hb:Nat.beq i id with
   |false=>rfl
   |true=>exact absurd (zA3 hb) hi
  rw[this];rfl
theorem RA.round{c:Code}(h:RA E r c A H (Thn (λA H=>RA E r (.loop c) A H Q) Q)):RA E r (.loop c) A H Q:=by
 obtain⟨n,l,h1,h2,h3⟩:=h
 have key:=iC (f:=λk z=>vU (eval E k) r c z) (λ{n k}z hk=>Ca ((dh E hk).code _ _ _ _) (λ_=>RLe.refl _) (RLe.refl _)) (Q:=λz=>Q z.1 z.2.1 z.2.2) l h2 λz hz=>by
  have hq:=h3 z hz;obtain⟨e,A1,H1⟩:=z
  cases e with
  |normal=>
   obtain⟨k,o,a,b⟩:=hq
   exact⟨k+1,o,a,b⟩
  |exit i=>exact⟨0,_,rfl,by simp,λy hy=>by rw[List.mem_singleton.1 hy];exact hq⟩
  |ret=>exact⟨0,_,rfl,by simp,λy hy=>by rw[List.mem_singleton.1 hy];exact hq⟩
 obtain⟨n',o,k1,k2,k3⟩:=key
 refine⟨max n n',o,?_,k2,k3⟩
 have a1:=ef (dh E (Nat.le_max_left n n')) c r A H _ h1;show((codeF E c).run (eval E (max n n')) r A H).bind (vU (eval E (max n n')) r c)=_
 rw[a1];exact k1 _ (Nat.le_max_right n n')
theorem RA.loop{c:Code}(I:Nat->aa->Hp->Prop)(hI:∀k A H,I k A H->RA E r c A H (Thn (λA' H'=>∃k',k'<k∧I k' A' H') Q)):∀(k:Nat){A:aa}{H:Hp},I k A H->RA E r (.loop c) A H Q:=by
 intro k;induction k using Nat.strongRecOn with
 |ind k ih=>
  intro A H h;refine RA.round ((hI k A H h).mono λe A' H' hq=>?_);cases e with
  |normal=>obtain⟨k',hk,h'⟩:=hq;exact ih k' hk h'
  |exit i=>exact hq
  |ret=>exact hq
theorem RA.region{id:Nat}{ops:Array Oper}(h:OA E (oN E.P ops) A H λA H=>Q .normal A H):RA E r (.region id ops false) A H Q:=by
 obtain⟨n,o,h1,h2,h3⟩:=h
 obtain⟨n',o',k1,k2,k3⟩:=iC (f:=λ_ z=>eI z) (λ_ _=>RLe.refl _) (Q:=λz=>Q z.1 z.2.1 z.2.2) o h2 λz hz=>⟨0,_,rfl,by simp,λy hy=>by rw[List.mem_singleton.1 hy];exact h3 z hz⟩
 refine⟨n,o',?_,k2,k3⟩
 show(dI E (eval E n) (oN E.P ops) A H).bind eI=_
 rw[h1];exact k1 n' (zA1 _)
theorem OA.om{g:Option (Option Tmp×Bool)}{d:Option Tmp}{f:SF}{o:Oper}{l:List OF}{Q:aa->Hp->Prop}{vs:List (AV×Hp)}(hg:∀y n:R (aa×Hp),bB A.tm g y n=y)(hd:aK d A.nt=true)
  (hr:f.run A.tm H=.om vs) (Z0:vs≠[]) (h:∀x∈vs,OA E l (bI A d x.1) x.2 Q):OA E (⟨g,d,f,o⟩::l) A H Q:=by
 obtain⟨n,o',k1,k2,k3⟩:=iC (f:=λk x=>fA A d x.1 x.2 (dI E (eval E k) l)) (λ{n k}x hk=>ji λa h=>mu (dh E hk) l a h) (Q:=λz=>Q z.1 z.2) vs Z0 λx hx=>by
  obtain⟨n,o,a,b⟩:=h x hx
  exact⟨n,o,by rw[iB hd];exact a,b⟩
 refine⟨n,o',?_,k2,k3⟩
 show bB A.tm g (lG E (eval E n) A d H (dI E (eval E n) l) (f.run A.tm H)) _=_;rw[hg,hr];exact k1 n (zA1 _)
theorem OA.val{g:Option (Option Tmp×Bool)}{d:Option Tmp}{f:SF}{o:Oper}{l:List OF}{Q:aa->Hp->Prop}{v:AV}{H':Hp}(hg:∀y n:R (aa×Hp),bB A.tm g y n=y)(hd:aK d A.nt=true)
  (hr:f.run A.tm H=.val v H') (h:OA E l (bI A d v) H' Q):OA E (⟨g,d,f,o⟩::l) A H Q:=by
 obtain⟨n,o',h1,h2⟩:=h
 refine⟨n,o',?_,h2⟩
 show bB A.tm g (lG E (eval E n) A d H (dI E (eval E n) l) (f.run A.tm H)) _=_;rw[hg,hr];show fA A d v H' (dI E (eval E n) l)=_;rw[iB hd];exact h1
end
structure Zi{K:Type}[DecidableEq K](P:Program)(kt:TypeId)(kv:K->AV):Prop where
 eq:∀a b,ib P kt (kv a) (kv b)=some (decide (a=b))
 ok:∀e a,fq P e kt (kv a)=some ()
 same:∀a,sameKey P kt (kv a) (kv a)=true
 nt:∀a,(kv a).bz=true
theorem BU{P:Program}{kt:TypeId}(h:bf P kt=1):Zi P kt λn:Int=>.one (.i .i64 n)where
 eq:=λa b=>by
  unfold ib;rw[h];show Eng.ifE (sameKind .i64 .i64) (some (iEq a b)) none=_;rw[kU];by_cases hh:a=b
  ·subst hh;simp;rfl
  rw[decide_eq_false hh,zB5 hh];rfl
 ok:=λ_ s=>by unfold fq;rw[h];rfl
 same:=λa=>by
  unfold sameKey;rw[h];show both (sameKind .i64 .i64) (iEq a a)=true;rw[kU,beq_self_eq_true];rfl
 nt:=λ_=>rfl
section
variable{K:Type}
def dz(kv:K->AV):Nat->List (K×AC)->List bu
 |_,[]=>[]
 |n,(k,v)::l=>⟨kv k,.one v,n⟩::dz kv (n+1) l
def gX(kv:K->AV)(l:List (K×AC)):aJ:=.oth (.map (dz kv 0 l) l.length)
theorem FY(kv:K->AV):∀(n:Nat)(l:List (K×AC))(k:K)(v:AC),dz kv n (l++[(k,v)])=dz kv n l++[⟨kv k,.one v,n+l.length⟩]
 |n,[],_,_=>rfl
 |n,(t,w)::l,k,v=>by
  show _::dz kv (n+1) (l++[(k,v)])=_::(dz kv (n+1) l++_);rw[FY kv (n+1) l k v];have:n+1+l.length=n+(l.length+1):=by omega
  rw[this];rfl
theorem uq(kv:K->AV):∀(n:Nat)(l:List (K×AC))(i:Nat),(dz kv n l)[i]?=(l[i]?).map λp=>⟨kv p.1,.one p.2,n+i⟩
 |_,[],i=>by simp[dz]
 |n,(t,w)::l,0=>rfl
 |n,(t,w)::l,i+1=>by
  show(dz kv (n+1) l)[i]?=_
  rw[uq kv (n+1) l i,List.getElem?_cons_succ];have:n+1+i=n+(i+1):=by omega
  rw[this]
variable[DecidableEq K]
def atG(l:List (K×AC))(k:K):Option AC:=
 match l with
 |[]=>none
 |(t,v)::l=>if t=k then some v else atG l k
def oV(l:List (K×AC))(k:K)(v:AC):List (K×AC):=
 match l with
 |[]=>[(k,v)]
 |(t,w)::l=>if t=k then(k,v)::l else(t,w)::oV l k v
variable{P:Program}{kt:TypeId}{kv:K->AV}(hk:Zi P kt kv)
include hk
theorem lookup_nil{H:Hp}{z:AV}{k:K}{ok:Bool}:aX P H kt z (.one (.o .nilM)) (kv k) ok=aV H ok z false:=by
 unfold aX;simp only[hk.ok];rfl
theorem xR(k:K)(x:AC):∀(n:Nat)(l:List (K×AC)),mR P kt (kv k) (.one x) (dz kv n l)=some ((atG l k).isSome,if(atG l k).isSome=true then dz kv n (oV l k x)else dz kv n l)
 |n,[]=>rfl
 |n,(t,v)::l=>by
  have ih:=xR k x (n+1) l;have e0:mR P kt (kv k) (.one x) (dz kv n ((t,v)::l))=aw (ib P kt (kv k) (kv t)) none λb=>Eng.ifE b (Eng.ifE (sameKey P kt (kv t) (kv k)) (some (true,⟨kv k,.one x,n⟩::dz kv (n+1) l)) none) (aw (mR P kt (kv k) (.one x) (dz kv (n+1) l)) none λr=>some (r.1,⟨kv t,.one v,n⟩::r.2)):=rfl;rw[e0,hk.eq];by_cases Y2:k=t
  ·subst Y2;show Eng.ifE (decide (k=k)) _ _=_;rw[decide_eq_true rfl];show Eng.ifE (sameKey P kt (kv k) (kv k)) _ _=_;rw[hk.same];have e1:atG ((k,v)::l) k=some v:=zB0 rfl;have e2:oV ((k,v)::l) k x=(k,x)::l:=zB0 rfl;rw[e1,e2];rfl
  show Eng.ifE (decide (k=t)) _ _=_;rw[decide_eq_false Y2];show aw (mR P kt (kv k) (.one x) (dz kv (n+1) l)) none _=_;rw[ih];have e1:atG ((t,v)::l) k=atG l k:=zB1 λh=>Y2 h.symm;have e2:oV ((t,v)::l) k x=(t,v)::oV l k x:=zB1 λh=>Y2 h.symm;rw[e1,e2];cases hs:(atG l k).isSome<;>rfl
omit hk in
theorem EN{l:List (K×AC)}{k:K}{x:AC}(h:atG l k=none):oV l k x=l++[(k,x)]:=by
 induction l with
 |nil=>rfl
 |cons p l ih=>
  obtain⟨t,w⟩:=p
  have Z0:¬t=k:=λe=>by
   have:atG ((t,w)::l) k=some w:=zB0 e;rw[this]at h;cases h
  have h1:atG l k=none:=by
   have:atG ((t,w)::l) k=atG l k:=zB1 Z0;rw[this]at h;exact h
  have e2:oV ((t,w)::l) k x=(t,w)::oV l k x:=zB1 Z0;rw[e2,ih h1];rfl
omit hk in
theorem FW{k:K}{x:AC}:∀{l:List (K×AC)},(oV l k x).length=if(atG l k).isSome=true then l.length else l.length+1
 |[]=>rfl
 |(t,w)::l=>by
  by_cases ht:t=k
  ·have e1:atG ((t,w)::l) k=some w:=zB0 ht;have e2:oV ((t,w)::l) k x=(k,x)::l:=zB0 ht;rw[e1,e2];rfl
  have e1:atG ((t,w)::l) k=atG l k:=zB1 ht;have e2:oV ((t,w)::l) k x=(t,w)::oV l k x:=zB1 ht;rw[e1,e2,List.length_cons,FW];split<;>rfl
theorem EJ{H:Hp}{id:Nat}{k:K}{l:List (K×AC)}{x:AC}(hg:H.get id=some (gX kv l)):
  aU P H kt (.one (.o (.mp id))) (kv k) (.one x)=.val aD (H.mod id (gX kv (oV l k x))):=by
 unfold aU;have Y1:H.get id=some (.oth (.map (dz kv 0 l) l.length)):=hg;simp only[Y1,hk.ok];show aA (both (kv k).bz true) _ (nd (mR P kt (kv k) (.one x) (dz kv 0 l)) _ _)=_;rw[hk.nt,xR hk k x 0 l];cases hs:atG l k with
 |some v=>
  show ab.val aD (H.mod id (.oth (.map (dz kv 0 (oV l k x)) l.length)))=_;unfold gX;rw[FW,hs];rfl
 |none=>
  show ab.val aD (H.mod id (.oth (.map (dz kv 0 l++[⟨kv k,.one x,l.length⟩]) (l.length+1))))=_;unfold gX;rw[EN hs,FY,List.length_append,Nat.zero_add];rfl
end
section
variable{K:Type}{kv:K->AV}{H:Hp}{m r:Nat}{l:List (K×AC)}{seen:List Nat}
def lJ(m n:Nat)(seen:List Nat):aJ:=.oth (.iter (some m) n seen n)
theorem VP(hg:H.get m=some (gX kv l)):gC H (.one (.o (.mp m)))=.val (.one (.o (.it H.nx))) (H.new (lJ m l.length [])):=by
 unfold gC;have Y1:H.get m=some (.oth (.map (dz kv 0 l) l.length)):=hg;simp only[Y1];rfl
theorem Ov:gC H (.one (.o .nilM))=.val (.one (.o (.it H.nx))) (H.new (.oth (.iter none 0 [] 0))):=rfl
theorem Rg(hr:H.get r=some (.oth (.iter none 0 [] 0))):ei H (.one (.o (.it r)))=.val lI H:=by
 unfold ei;simp only[hr]
theorem rQ{e:bu}(he:e∈dz kv 0 l):∃i p,l[i]?=some p∧e=⟨kv p.1,.one p.2,i⟩:=by
 obtain⟨i,hi⟩:=List.mem_iff_getElem?.1 he
 rw[uq]at hi;cases hp:l[i]? with
 |none=>rw[hp]at hi;cases hi
 |some p=>
  rw[hp]at hi;refine⟨i,p,hp,?_⟩
  have:=Option.some.inj hi;rw[<-this,Nat.zero_add]
theorem NL(hr:H.get r=some (lJ m l.length seen))(hg:H.get m=some (gX kv l))(hs:∀i,i<l.length->i∈seen):ei H (.one (.o (.it r)))=.val lI H:=by
 unfold ei;have E3:H.get r=some (.oth (.iter (some m) l.length seen l.length)):=hr;have Y1:H.get m=some (.oth (.map (dz kv 0 l) l.length)):=hg;simp only[E3,Y1];have h1:(!(!seen.isEmpty&&!(dz kv 0 l).isEmpty&&(dz kv 0 l).all (λe=>Nat.ble l.length e.born)))=true:=by
  cases l with
  |nil=>simp[dz]
  |cons p l=>
   have:Nat.ble (l.length+1) 0=false:=rfl;simp[dz,this]
 rw[h1];have h2:(dz kv 0 l).filter (λe=>!seen.contains e.born)=[]:=by
  rw[List.filter_eq_nil_iff];intro e he;obtain⟨i,p,hp,rfl⟩:=rQ he
  have:i∈seen:=hs i (List.getElem?_eq_some_iff.1 hp).1;simp[this]
 rw[h2];rfl
theorem OY(hr:H.get r=some (lJ m l.length seen))(hg:H.get m=some (gX kv l))(hs:∃i,i<l.length∧i∉seen):
  ∃vs,ei H (.one (.o (.it r)))=.om vs∧vs≠[]∧∀x∈vs,∃i p,l[i]?=some p∧i∉seen∧x=(mw (kv p.1) (.one p.2),H.mod r (lJ m l.length (seen++[i]))):=by
 obtain⟨i0,l5,hs0⟩:=hs
 have E3:H.get r=some (.oth (.iter (some m) l.length seen l.length)):=hr;have Y1:H.get m=some (.oth (.map (dz kv 0 l) l.length)):=hg;have h1:(!(!seen.isEmpty&&!(dz kv 0 l).isEmpty&&(dz kv 0 l).all (λe=>Nat.ble l.length e.born)))=true:=by
  cases l with
  |nil=>simp[dz]
  |cons p l=>
   have:Nat.ble (l.length+1) 0=false:=rfl;simp[dz,this]
 have E0:∀e,e∈(dz kv 0 l).filter (λe=>!seen.contains e.born)->∃i p,l[i]?=some p∧i∉seen∧e=⟨kv p.1,.one p.2,i⟩:=λe he=>by
  obtain⟨h2,h3⟩:=List.mem_filter.1 he
  obtain⟨i,p,hp,rfl⟩:=rQ h2
  exact⟨i,p,hp,by simpa using h3,rfl⟩
 cases hf:(dz kv 0 l).filter (λe=>!seen.contains e.born)with
 |nil=>
  exfalso;rw[List.filter_eq_nil_iff]at hf;have h2:=uq kv 0 l i0;rw[zB4 l5,Nat.zero_add]at h2;have:=hf _ (List.mem_iff_getElem?.2 ⟨i0,h2⟩);simp[hs0]at this
 |cons e es=>
  rw[hf]at E0;refine⟨(e::es).map λe=>(mw e.key e.val,H.mod r (lJ m l.length (seen++[e.born]))),?_,by simp,λx hx=>?_⟩
  ·unfold ei;simp only[E3,Y1];rw[h1,hf];have h4:((e::es).all λe=>Nat.blt e.born l.length)=true:=by
    rw[List.all_eq_true];intro e' M_;obtain⟨i,p,hp,_,rfl⟩:=E0 e' M_
    exact zA5 (List.getElem?_eq_some_iff.1 hp).1
   show aA true _ (aA ((e::es).all λe=>Nat.blt e.born l.length) _ _)=_;rw[h4];rfl
  obtain⟨e',M_,rfl⟩:=List.mem_map.1 hx
  obtain⟨i,p,hp,hn,rfl⟩:=E0 e' M_
  exact⟨i,p,hp,hn,rfl⟩
theorem WQ{i:Nat}{p:K×AC}(hr:H.get r=some (lJ m l.length (seen++[i])))(hg:H.get m=some (gX kv l))(hp:l[i]?=some p):gF H (.one (.o (.it r)))=.val (Tf (kv p.1) (.one p.2)) H:=by
 unfold gF;have E3:H.get r=some (.oth (.iter (some m) l.length (seen++[i]) l.length)):=hr;have Y1:H.get m=some (.oth (.map (dz kv 0 l) l.length)):=hg;simp only[E3,Y1,List.getLast?_concat,Nat.beq_refl];have hf:(dz kv 0 l).find? (λe=>Nat.beq e.born i)=some ⟨kv p.1,.one p.2,i⟩:=by
  cases hx:(dz kv 0 l).find? (λe=>Nat.beq e.born i)with
  |none=>
   exfalso;have h2:=uq kv 0 l i;rw[hp,Nat.zero_add]at h2;have:=List.find?_eq_none.1 hx _ (List.mem_iff_getElem?.2 ⟨i,h2⟩);simp at this
  |some e=>
   obtain⟨j,q,hq,rfl⟩:=rQ (List.mem_of_find?_eq_some hx)
   have hb:=List.find?_some hx;have:j=i:=zA3 hb;subst this;rw[hp]at hq;cases hq;rfl
 show aA true _ _=_;simp only[aA,hf]
end
section
variable{st:Bool}{E:Env}{A:aa}{H:Hp}{next:aa->Hp->Prop}{d:Option Tmp}{ty:TypeId}{pos:String}{af:Array Edge}{gd:Option (Nat×Bool)}
theorem TT{x:Operand}:SK st E ⟨d,.entry x,ty,pos,af,gd⟩ A H next=(True∧vN next A d (gF H (ev A.tm x))):=rfl
theorem TU{t:TypeId}{x:Operand}:SK st E ⟨d,.range t x,ty,pos,af,gd⟩ A H next=(True∧fU (fW E.P t) λ_=>vN next A d (gC H (ev A.tm x))):=by
 show(True∧dE _ ((ndF (fW E.P t) _ _).run A.tm H))=_
 rw[bT];rfl
end
def EndQ(E:Env)(res:List ResultVar)(Q:AV->Hp->Prop):ak->aa->Hp->Prop:=λe A H=>∃w H4,aC E res (e,A,H)=.ok [(w,H4)]∧Q w H4
theorem OA.nil{E:Env}{A:aa}{H:Hp}{Q:aa->Hp->Prop}(h:Q A H):OA E [] A H Q:=OA.of (O1.nil h)
section
variable{P:Program}{H:Hp}{t e:TypeId}{sz by_ n k:Nat}{z:Value}{x:AV}{c:List AC}
theorem Hw{s:AV}(he:bt P t=some (e,sz))(hb:cK P e=some by_)(hz:ay P e=some z)(B2:(ofValue z).cells.length=sz)(L1:sz≠0)(hs:jt H sz x=some (k,c)):bh P H t s x=dp H e sz by_ k c s:=by
 have e1:Nat.beq sz 0=false:=by
  cases h:Nat.beq sz 0 with
  |false=>rfl
  |true=>exact absurd (zA3 h) L1
 have e3:both (!Nat.beq sz 0) (Nat.beq (bq (ofValue z).cells) sz)=true:=by rw[e1,bj,B2,Nat.beq_refl];rfl
 unfold bh;simp only[he,hb,hz,nd,e3,aA,hs]
theorem It{id gen lo at_:Nat}{cells:List AC}(he:bt P t=some (e,sz))(hb:cK P e=some by_)(hz:ay P e=some z)(B2:(ofValue z).cells.length=sz)(L1:sz≠0)
  (hg:H.get id=some (.arr cells e lo gen)) (C6:lo≤gen) (K0:at_*sz≤cells.length) (hs:jt H sz x=some (k,c)) (hk:k≠0) (h1:at_+k≤140737488355328) (h2:(at_+k)*by_≤140737488355328):
  ∃lo',lo'≤gen+1∧bh P H t (.one (.o (.sl id gen 0 at_ sz))) x=.val (.one (.o (.sl id (gen+1) 0 (at_+k) sz))) (H.mod id (.arr (cells.take (at_*sz)++c) e lo' (gen+1))):=by
 have e2:Nat.beq k 0=false:=by
  cases h:Nat.beq k 0 with
  |false=>rfl
  |true=>exact absurd (zA3 h) hk
 have g5:Nat.ble (Nat.add 0 (Nat.mul at_ sz)) (bq cells)=true:=by
  rw[bj];exact zA5 (by show 0+at_*sz≤cells.length;omega)
 have g6:Nat.ble (Nat.add at_ k) 140737488355328=true:=zA5 h1;have g7:Nat.ble (Nat.mul (Nat.add at_ k) by_) 140737488355328=true:=zA5 h2;have key:bh P H t (.one (.o (.sl id gen 0 at_ sz))) x=Eng.ifE (Nat.beq (Nat.mul at_ sz) (bq cells)) (.val (.one (.o (.sl id (gen+1) 0 (at_+k) sz))) (H.mod id (.arr (lL cells c) e lo (gen+1)))) (.val (.one (.o (.sl id (gen+1) 0 (at_+k) sz))) (H.mod id (.arr (lL (cut cells 0 (Nat.mul at_ sz)) c) e (gen+1) (gen+1)))):=by
  rw[Hw he hb hz B2 L1 hs];show nh (H.get id) _ _=_;rw[hg];show aA (both (Nat.beq sz sz) (both (Nat.beq e e) (both (Nat.ble lo gen) (both (Nat.ble gen gen) (both (Nat.ble (Nat.add 0 (Nat.mul at_ sz)) (bq cells)) (both (Nat.ble (Nat.add at_ k) 140737488355328) (Nat.ble (Nat.mul (Nat.add at_ k) by_) 140737488355328))))))) _
   (Eng.ifE (Nat.beq k 0) _ (Eng.ifE (both (Nat.beq gen gen) (both (Nat.beq 0 0) (Nat.beq (Nat.mul at_ sz) (bq cells)))) _ _))=_
  rw[Nat.beq_refl,Nat.beq_refl,Nat.beq_refl,zA5 C6,zA5 (zA1 gen),g5,g6,g7,e2];rfl
 rw[key];cases hf:Nat.beq (Nat.mul at_ sz) (bq cells)with
 |true=>
  have hl:at_*sz=cells.length:=by
   have:=zA3 hf;rw[bj]at this;exact this
  refine⟨lo,zA7 C6,?_⟩
  rw[hl,List.take_length,gE];rfl
 |false=>
  refine⟨gen+1,zA1 _,?_⟩
  rw[gE,gE,jz,List.drop_zero];rfl
end
def oM(H:Hp)(id:Nat)(look:Int->Option AV):Prop:=(∃es c k,H.get id=some (.oth (.map es c))∧lH es=some k∧∀n,de n k=look n)∨∃k,H.get id=some (.oth (.fmap k))∧∀n,de n k=look n
structure KB(H:Hp)(nt:Nat)(df:List Nat)(P:aa->Hp->Prop)(A':aa)(H':Hp):Prop where
 ntE:A'.nt=nt
 dfr:A'.dfr=df
 slot:∀t v,t<nt->(∀A2 H2,P A2 H2->slot A2.tm t=v)->slot A'.tm t=v
 old:∀id x,id<H.nx->(∀A2 H2,P A2 H2->H.nx≤H2.nx∧H2.get id=x)->H'.get id=x
 map:∀id look,id<H.nx->(∀A2 H2,P A2 H2->H.nx≤H2.nx∧∃es c k,H2.get id=some (.oth (.map es c))∧lH es=some k∧∀n,de n k=look n)->oM H' id look
 nx:(∀A2 H2,P A2 H2->H.nx≤H2.nx)->H.nx≤H'.nx
 log:∀X:Nat->Prop,(∀i,i<H.nx->¬X i->∃x,∀A2 H2,P A2 H2->H2.get i=x)->(∀A2 H2,P A2 H2->∃l,H2.log=l++H.log∧∀id∈l,H.nx≤id∨X id)->∃l,H'.log=l++H.log∧∀id∈l,H.nx≤id∨X id
section
variable{E:Env}{A:aa}{H:Hp}{r:Option Nat}
open Classical in
theorem UA{nt:Nat}{df:List Nat}{e0:ak}{P:aa->Hp->Prop}{l:List (ak×aa×Hp)}(Z0:l≠[])(hl:∀z∈l,z.1=e0∧z.2.1.nt=nt∧z.2.1.dfr=df∧P z.2.1 z.2.2)
  (hold:∀i,i<H.nx->(∃x,∀A2 H2,P A2 H2->H2.get i=x)∨(∃look:Int->Option AV,∀A2 H2,P A2 H2->∃es c k,H2.get i=some (.oth (.map es c))∧lH es=some k∧∀n,de n k=look n)∨∀A2 H2,P A2 H2->∃x,H2.get i=some (.oth x)):
  ∃A' H',lQ H l=[(e0,A',H')]∧KB H nt df P A' H':=by
 cases l with
 |nil=>exact absurd rfl Z0
 |cons x l=>
  obtain⟨O0,M6,hx3,v8⟩:=hl x (List.mem_cons_self ..)
  cases l with
  |nil=>
   refine⟨x.2.1,x.2.2,?_,⟨M6,hx3,λt v _ h=>h _ _ v8,λid x _ h=>(h _ _ v8).2,λid look _ h=>.inl (h _ _ v8).2,λh=>h _ _ v8,λX _ h=>h _ _ v8⟩⟩
   show[x]=_
   rw[<-O0]
  |cons y l=>
   have e:lQ H (x::y::l)=Sn H (x::y::l) x:=rfl;have hc:∀z∈x::y::l,z.1=x.1∧z.2.1.nt=x.2.1.nt∧z.2.1.dfr=x.2.1.dfr∧∀id,id<H.nx->z.2.2.t.get id=x.2.2.t.get id∨(∃k,wk (x::y::l) id k)∨∀z∈x::y::l,zj z id:=λz hz=>by
    obtain⟨a1,a2,a3,a4⟩:=hl z hz
    refine⟨a1.trans O0.symm,a2.trans M6.symm,a3.trans hx3.symm,λid hid=>?_⟩
    rcases hold id hid with⟨o,ho⟩|⟨look,ho⟩|ho
    ·exact .inl ((ho _ _ a4).trans (ho _ _ v8).symm)
    ·obtain⟨es,c,k,_,_,h3⟩:=ho _ _ v8
     refine .inr (.inl ⟨k,λw hw=>?_⟩);obtain⟨es',c',k',N5,F8,r_⟩:=ho _ _ (hl w hw).2.2.2
     exact⟨es',c',k',N5,F8,λn=>(r_ n).trans (h3 n).symm⟩
    exact .inr (.inr λw hw=>ho _ _ (hl w hw).2.2.2)
   have e2:lQ H (x::y::l)=[(x.1,⟨rI (x::y::l) x.2.1.tm x.2.1.nt,x.2.1.nt,x.2.1.dfr⟩,pE H (x::y::l) x.2.2.t)]:=by rw[e];exact zB0 hc
   refine⟨_,_,by rw[e2,O0],?_⟩
   have E0:∀z∈x::y::l,P z.2.1 z.2.2:=λz hz=>(hl z hz).2.2.2;generalize hL:x::y::l=L at *;have hxL:x∈L:=by rw[<-hL];exact List.mem_cons_self ..
   have agree:∀id o,id<H.nx->(∀A2 H2,P A2 H2->H2.get id=o)->∀z∈L,ct H.nx id (z.2.2.t.get id)=ct H.nx id (x.2.2.t.get id):=λid o hid h z hz=>congrArg _ ((h _ _ (E0 z hz)).trans (h _ _ v8).symm);refine⟨M6,hx3,λt v ht h=>?_,λid o hid h=>?_,λid look hid h=>?_,λh=>?_,λX hX h=>?_⟩
   ·show jQ (rI L x.2.1.tm x.2.1.nt) t=v;have S2:∀z∈L,jQ z.2.1.tm t=jQ x.2.1.tm t:=λz hz=>(h _ _ (E0 z hz)).trans (h _ _ v8).symm;rw[oS,zB0 (by rw[M6];exact ht),zB0 S2];exact h _ _ v8
   ·have h1:=h _ _ v8;have h2:id<qn L:=zA0 (zA0 hid h1.1) (lk hxL);rw[gk,zB0 h2];unfold rf;rw[zB0 (agree id o hid λA2 H2 hp=>(h A2 H2 hp).2)];show(if id<H.nx then x.2.2.t.get id else _)=_
    rw[zB0 hid];exact h1.2
   ·have h1:=h _ _ v8;have h2:id<qn L:=zA0 (zA0 hid h1.1) (lk hxL);have hg:(pE H L x.2.2.t).get id=rf H.nx L x.2.2.t id:=by rw[gk,zB0 h2]
    unfold rf at hg;by_cases S2:∀z∈L,ct H.nx id (z.2.2.t.get id)=ct H.nx id (x.2.2.t.get id)
    ·rw[zB0 S2]at hg;have:ct H.nx id (x.2.2.t.get id)=x.2.2.t.get id:=zB0 hid;rw[this]at hg;obtain⟨es,c,k,a1,a2,a3⟩:=h1.2
     exact .inl ⟨es,c,k,hg.trans a1,a2,a3⟩
    have hk:∃k,wk L id k:=by
     obtain⟨es,c,k,_,_,a3⟩:=h1.2
     refine⟨k,λw hw=>?_⟩
     obtain⟨_,es',c',k',N5,F8,r_⟩:=h _ _ (E0 w hw)
     exact⟨es',c',k',N5,F8,λn=>(r_ n).trans (a3 n).symm⟩
    rw[zB1 S2,dif_pos hk]at hg;refine .inr ⟨_,hg,λn=>?_⟩;obtain⟨es,c,k',b1,b2,b3⟩:=hk.choose_spec x hxL
    obtain⟨es2,c2,k2,a1,a2,a3⟩:=h1.2
    have a1:x.2.2.t.get id=some (.oth (.map es2 c2)):=a1;rw[b1]at a1;cases a1
    rw[b2]at a2;cases a2
    exact(b3 n).symm.trans (a3 n)
   ·exact zA2 (h _ _ v8) (lk hxL)
   refine⟨_,rfl,λid hid=>?_⟩
   rcases List.mem_append.1 hid with hid|hid
   ·obtain⟨_,h2⟩:=(vA _).1 hid
    rcases Nat.lt_or_ge id H.nx with h3|h3
    ·right;refine Classical.byContradiction λhx=>h2 ?_;obtain⟨o,ho⟩:=hX id h3 hx
     exact agree id o h3 ho
    exact .inl h3
   obtain⟨z,hz,M1⟩:=List.mem_flatMap.1 hid
   obtain⟨l2,e3,f3⟩:=h _ _ (E0 z hz)
   rw[BI e3]at M1;exact f3 id M1
theorem R1.Yh{id nt:Nat}{c:Code}{df:List Nat}{Q:ak->aa->Hp->Prop}(P:aa->Hp->Prop)(hj:E.jn id=true)
  (h:RA E r c A H (InB id λe A' H'=>e=.normal∧A'.nt=nt∧A'.dfr=df∧P A' H'))
  (hold:∀i,i<H.nx->(∃x,∀A2 H2,P A2 H2->H2.get i=x)∨(∃look:Int->Option AV,∀A2 H2,P A2 H2->∃es c k,H2.get i=some (.oth (.map es c))∧lH es=some k∧∀n,de n k=look n)∨∀A2 H2,P A2 H2->∃x,H2.get i=some (.oth x))
  (hq:∀A' H',KB H nt df P A' H'->Q .normal A' H'):R1 E r (.block id c) A H Q:=by
 obtain⟨n,l,h1,h2,h3⟩:=h
 obtain⟨n',o,k1,k2,k3⟩:=iC (f:=λ_ z=>jE id z) (λ_ _=>RLe.refl _) (Q:=λz=>z.1=ak.normal∧z.2.1.nt=nt∧z.2.1.dfr=df∧P z.2.1 z.2.2) l h2 λz hz=>by
  obtain⟨e,A1,H1⟩:=z
  obtain⟨e2,a,b⟩:=IX id e A1 H1 (h3 _ hz)
  exact⟨0,_,a,by simp,λy hy=>by rw[List.mem_singleton.1 hy];exact b⟩
 obtain⟨A',H',j1,j2⟩:=UA (H:=H) k2 k3 hold
 refine⟨n,.normal,A',H',?_,hq A' H' j2⟩
 show kH (E.jn id) H (((codeF E c).run (eval E n) r A H).bind (jE id))=_;rw[h1,hj];have e3:R.bind (R.ok l) (jE id)=.ok o:=k1 n' (zA1 _);rw[e3];show R.ok (lQ H o)=_;rw[j1]
end
theorem kO:∀(n:Nat)(l:List (Int×AC)),lH (dz (λx:Int=>.one (.i .i64 x)) n l)=some (l.map λp=>(p.1,AV.one p.2))
 |_,[]=>rfl
 |n,(k,v)::l=>by
  show(match AV.one (.i .i64 k),lH (dz _ (n+1) l)with|.one (.i .i64 n),some r=>some ((n,AV.one v)::r)|_,_=>none)=_
  rw[kO (n+1) l];rfl
theorem nO{x:Int}:∀(l:List (Int×AC)),de x (l.map λp=>(p.1,AV.one p.2))=(atG l x).map AV.one
 |[]=>rfl
 |(k,v)::l=>by
  show(if x=k then some (AV.one v)else de x _)=(if k=x then some v else atG l x).map AV.one
  by_cases h:x=k
  ·subst h;rw[zB0 rfl,zB0 rfl];rfl
  rw[zB1 h,zB1 λe=>h e.symm,nO l]
theorem oM.of{H:Hp}{id:Nat}{l:List (Int×AC)}(h:H.get id=some (gX (λx:Int=>.one (.i .i64 x)) l)):oM H id λn=>(atG l n).map AV.one:=
 .inl ⟨_,_,_,h,kO 0 l,λn=>nO l⟩
theorem oM.fr{H H':Hp}{id:Nat}{look:Int->Option AV}{X:Nat->Prop}(h:oM H id look)(hf:Fr X H H')(hid:id<H.nx)(hx:¬X id):oM H' id look:=by
 unfold oM;rw[hf.get id hid hx];exact h
theorem PX{P:Program}{kt:TypeId}(hk:bf P kt=1){H:Hp}{z:AV}{id:Nat}{x:Int}{ok:Bool}{look:Int->Option AV}(h:oM H id look):
  aX P H kt z (.one (.o (.mp id))) (.one (.i .i64 x)) ok=(match look x with|some v=>aV H ok v true|none=>aV H ok z false):=by
 rcases h with⟨es,c,k,h1,h2,h3⟩|⟨k,h1,h2⟩
 ·obtain⟨e,e1,e2⟩:=mG (P:=P) hk x h2
  rw[h3]at e2;have D0:fq P es.isEmpty kt (.one (.i .i64 x))=some ():=by unfold fq;rw[hk];rfl
  unfold aX;simp only[h1,D0];show(match iV P kt (.one (.i .i64 x)) es with|some (some e)=>aV H ok e.val true|some none=>aV H ok z false|none=>.bad "lookup - keys")=_
  rw[e1,<-e2];cases e<;>rfl
 unfold aX;simp only[h1];show lY P H kt z (.one (.i .i64 x)) ok k=_;unfold lY;rw[hk];show aA (sameKind .i64 .i64) _ (aw (de x k) _ _)=_;rw[h2];have:sameKind .i64 .i64=true:=rfl;rw[this];cases look x<;>rfl
def Zk(l:List Oper):Bool:=match l with|[]=>false|_=>true
def wS:List Nat->List Oper->List Nat->Bool
 |_,[],_=>true
 |before,o::os,m::ms=>(Nat.blt (opK o) 4&&bN (plK (Zk os) o) m 0 before)&&wS (before++[opK o]) os ms
 |_,_::_,[]=>false
def seqLK(ops:Array Oper):Bool:=dP ops&&wS [] ops.toList (dM [] 0 ops.toList)
def SL(E:Env)(Q:aa->Hp->Prop):List (Option (Option Tmp×Bool))->List Oper->aa->Hp->Prop
 |_,[],A,H=>Q A H
 |[],_::_,_,_=>False
 |g::gs,o::l,A,H=>aK o.dst A.nt=true∧SU (Zk l) E o A H (SL E Q gs l) (gw g A.tm)
theorem SL.d1{E:Env}{ops:List Oper}{Q:aa->Hp->Prop}:∀{l:List Oper}{j:Nat}{ms:List Nat}{before:List Nat}{did:List Did}{A:aa}{H:Hp},before.length=j->du before did->wS before l ms=true->SL E Q (l.map λo=>gOf ops o.guard) l A H->D1 E (fH E.P ops l) j ms did A H Q
 |[],j,ms,_,_,A,H,_,_,_,h=>D1.nil h
 |o::l,j,[],_,_,A,H,_,_,hs,_=>by cases hs
 |o::l,j,m::ms,before,did,A,H,hj,U1,hs,h=>by
  unfold wS at hs;rw[Bool.and_eq_true,Bool.and_eq_true]at hs;obtain⟨⟨h4,J5⟩,L3⟩:=hs
  have Q_:opK o<4:=zA4 h4;obtain⟨hd,hg⟩:=h
  have R5:(before++[opK o]).length=j+1:=by simp[hj]
  rcases nf (gOf ops o.guard) A.tm with⟨h1,h2⟩|⟨h1,h2⟩|h1
  ·rw[h1]at hg;exact SK.d1 hj U1 Q_ J5 h2 hd (SK.mono hg λA' H' hn did' L9=>SL.d1 R5 L9 L3 hn)
  ·rw[h1]at hg;exact D1.skip h2 hd (SL.d1 R5 (U1.more _) L3 hg)
  rw[h1]at hg;exact hg.elim
section
variable{E:Env}{r:Option Nat}{z:Code}{B:aa}{H:Hp}{Q:ak->aa->Hp->Prop}
theorem Yw{E:Env}{Q:aa->Hp->Prop}{gs:List (Option (Option Tmp×Bool))}{A:aa}{H:Hp}:SL E Q gs [] A H=Q A H:=by cases gs<;>rfl
end
theorem qJ:(∀(E:Env)(Q:aa->Hp->Prop)(gs:List (Option (Option Tmp×Bool)))(A:aa)(H:Hp),SL E Q gs [] A H=Q A H) ∧
  (∀(E:Env)(Q:aa->Hp->Prop)(g:Option (Option Tmp×Bool))(gs:List (Option (Option Tmp×Bool)))(o:Oper)(A:aa)(H:Hp),SL E Q (g::gs) [o] A H=(aK o.dst A.nt=true∧SU false E o A H (SL E Q gs []) (gw g A.tm))) ∧
  (∀(E:Env)(Q:aa->Hp->Prop)(g:Option (Option Tmp×Bool))(gs:List (Option (Option Tmp×Bool)))(o o2:Oper)(l:List Oper)(A:aa)(H:Hp),SL E Q (g::gs) (o::o2::l) A H=(aK o.dst A.nt=true∧SU true E o A H (SL E Q gs (o2::l)) (gw g A.tm))):=
 ⟨λ_ _ _ _ _=>Yw,λ_ _ _ _ _ _ _=>rfl,λ_ _ _ _ _ _ _ _ _=>rfl⟩
def FrL(n0:Nat)(H H':Hp):Prop:=∃l,H'.log=l++H.log∧∀i∈l,H.nx≤i∨n0≤i
theorem FrL.new{n0:Nat}{X:Nat->Prop}{H H':Hp}{o:aJ}(h:Fr X H H')(hn:n0≤H.nx)(hx:∀i,X i->n0≤i):FrL n0 (H.new o) H':=by
 obtain⟨l,e,f⟩:=h.log
 exact⟨l,e,λi hi=>.inr ((f i hi).elim (zA2 hn) (hx i))⟩
theorem wq{wr:List Nat}:∀{us:List Did},(∀u∈us,∀i∈wr,u.M1.get i=none)->eC us wr=true
 |[],_=>rfl
 |x::us,h=>by
  have f1:∀(l:List Nat),(∀i∈l,x.M1.get i=none)->sJ x.M1 l=true:=λl=>by
   induction l with
   |nil=>intro _;rfl
   |cons i l ih=>
    intro hl;show aw (x.M1.get i) (sJ x.M1 l) (λ_=>false)=true;rw[hl i (List.mem_cons_self ..)];exact ih λk hk=>hl k (List.mem_cons_of_mem _ hk)
  show both (sJ x.M1 wr) (eC us wr)=true;rw[f1 wr (h x (List.mem_cons_self ..)),wq λu hu=>h u (List.mem_cons_of_mem _ hu)];rfl
theorem zc{Z:Did->Prop}{did:List Did}{u:Did}(h:∀u∈did,Z u)(hu:Z u):∀w∈u::did,Z w:=λw hw=>(List.mem_cons.1 hw).elim (λe=>by rw[e];exact hu) (h w)
theorem UU{H:Hp}{tm:PT AV}{o:Oper}{us:List Did}(hk:bm o=1){i:Nat}(hi:H.nx≤i):(aO H.t H.nx tm o us).get i=none:=by
 have e:aO H.t H.nx tm o us=bP .leaf H.t ((kY H.t (o.op.operands.toList.flatMap λx=>(ev tm x).ids)).filter λi=>Nat.blt i H.nx&&!us.any (bO · i)):=by
  unfold aO;rw[hk];rfl
 rw[e,mV,zB1]
 ·rfl
 rw[List.mem_filter];intro h;have h2:=h.2;rw[Bool.and_eq_true]at h2;have:i<H.nx:=zA4 h2.1;omega
def Zs:Code->Nat->Option Code
 |.seq x y,n=>if n=0 then some x else some y
 |.cond _ x y,n=>if n=0 then some x else some y
 |.rangeFunc _ _ x y,n=>if n=0 then some x else some y
 |.block _ x,_=>some x
 |.loop x,_=>some x
 |.scope x,_=>some x
 |_,_=>none
def atC(c:Code):List Nat->Option Code
 |[]=>some c
 |n::p=>match Zs c n with|some d=>atC d p|none=>none
def atF(f:Func)(p:List Nat):Option Code:=match f.body with|some c=>atC c p|none=>none
section
variable{E:Env}{r:Option Nat}{z:Code}{B:aa}{H:Hp}{Q:ak->aa->Hp->Prop}
theorem R1.label{id:Nat}(h:Q .normal B H):R1 E r (.label id) B H Q:=⟨0,_,_,_,rfl,h⟩
theorem R1.BA{id:Nat}(h:R1 E r z B H Q):R1 E r (.seq (.label id) z) B H Q:=R1.seq (R1.label h)
end
def zy(n0:Nat)(o:Oper)(A:aa):Prop:=opK o=2->∀x∈dw o,ltV (ev A.tm x) n0
def Zq(P n0:Nat)(u:Did):Prop:=((∀i∈u.wr,n0≤i)∧n0≤u.c0)∧(u.idx<P->u.wr=[]∧u.c0=u.c1∧∀i,n0≤i->u.M1.get i=none)
theorem Zq.old{P n0:Nat}{u:Did}(h:Zq P n0 u){i:Nat}(hi:i<n0):bO u i=false:=by
 cases ht:bO u i with
 |false=>rfl
 |true=>
  rcases kS.1 ht with h1|h1
  ·have:=h.1.1 i h1;omega
  have:=h.1.2;omega
section
variable{st:Bool}{E:Env}{A:aa}{H:Hp}{Q:aa->Hp->Prop}{g:Option (Option Tmp×Bool)}{l:List OF}{j m:Nat}{ms:List Nat}{did:List Did}{before:List Nat}
theorem ZV{P n0:Nat}{o:Oper}(hz:∀u∈did,Zq P n0 u)(J2:n0≤H.nx)(hjP:¬j<P)(hj:before.length=j)(U1:du before did)(hk:opK o=3)(S0:cI o=false)(S6:∀u∈aL m did,(u.wr=[]∧u.c0=u.c1)∧∀i,n0≤i->u.M1.get i=none)
  (hg:∀y n:R (aa×Hp),bB A.tm g y n=y) (hd:aK o.dst A.nt=true)
  (h:SK true E o A H λA' H'=>FrL n0 H H'∧∀did',du (before++[3]) did'->(∀u∈did',Zq P n0 u)->n0≤H'.nx->D1 E l (j+1) ms did' A' H' Q):D1 E (⟨g,o.dst,aI E.P o,o⟩::l) j (m::ms) did A H Q:=by
 have I3:=mf hk (by decide);obtain⟨hl,v,H',hn,Y0⟩:=SK.val S0 h
 rw[S0]at I3;have C':∀u∈aL m did,∀i,bO u i=false:=λu hu i=>by
  obtain⟨⟨a,b⟩,_⟩:=S6 u hu
  cases ht:bO u i with
  |false=>rfl
  |true=>
   rcases kS.1 ht with h|h
   ·rw[a]at h;cases h
   omega
 have S2:=BP (us:=aL m did) I3 hl λu hu i=>C' u hu i;generalize U0:aO H.t H.nx A.tm o (aL m did)=sub at S2;refine D1.cons hg hd U0 ?_;have hdo:∀u:Did,u.idx=j->du (before++[3]) (u::did):=λu R5=>U1.cons (R5.trans hj.symm) (by decide) (λh=>by cases h);rcases Rq hk S0 (P:=E.P) _ _ _ _ hn with⟨e1,e2⟩|⟨x,e1,e2⟩|⟨id,x,k,e1,ek,⟨y,hy,hyid⟩,e2⟩
 ·rw[e2 _ S2];subst e1;refine N1.val ⟨dC _,?_⟩;rw[I3];have e3:cM 1 H' ⟨sub,H'.nx,[]⟩ [] []=H'.t:=by
   show bP H'.t sub (cd H'.nx (H'.nx-H'.nx))=H'.t;rw[Nat.sub_self];rfl
  show D1 E l (j+1) ms _ (bI A o.dst v) ⟨cM 1 H' ⟨sub,H'.nx,[]⟩ [] [],H'.nx,[]++H'.log⟩ Q;rw[e3];exact Y0.2 _ (hdo _ rfl) (zc hz ⟨⟨λi hi=>(by cases hi),J2⟩,λh=>absurd h hjP⟩) J2
 ·rw[e2 _ S2];subst e1;refine N1.val ⟨dC _,?_⟩;rw[I3];have e3:cM 1 H (Hp.new ⟨sub,H.nx,[]⟩ x) [] []=H.t.set H.nx x:=by
   show bP H.t (sub.set H.nx x) (cd H.nx (H.nx+1-H.nx))=_;have:H.nx+1-H.nx=1:=by omega
   rw[this];show PT.put ((sub.set H.nx x).get H.nx) H.t H.nx=_;rw[PT.dv,zB0 rfl];rfl
  show D1 E l (j+1) ms _ (bI A o.dst v) ⟨cM 1 H (Hp.new ⟨sub,H.nx,[]⟩ x) [] [],H.nx+1,[]++H.log⟩ Q;rw[e3];exact Y0.2 _ (hdo _ rfl) (zc hz ⟨⟨λi hi=>(by cases hi),J2⟩,λh=>absurd h hjP⟩) (zA7 J2)
 rw[e2 _ S2];subst e1;have hid:id<H.nx:=hl.mem hy hyid;have i':db sub H.nx [id]=[id]:=by
  show Eng.ifE (Nat.blt id H.nx) (aw (sub.get id) (db sub H.nx []) λ_=>id::db sub H.nx []) (db sub H.nx [])=_;have f1:Nat.blt id H.nx=true:=zA5 hid;have f2:sub.get id=some k:=(S2.2 y hy id hyid).trans ek;rw[f1,f2];rfl
 have hge:n0≤id:=by
  obtain⟨lg,e3,f3⟩:=Y0.1
  have e4:lg=[id]:=(List.append_cancel_right (show[id]++H.log=lg++H.log from e3)).symm;rcases f3 id (by rw[e4];exact List.mem_singleton.2 rfl)with h|h
  ·omega
  exact h
 have hfree:eC (aL m did) (db sub H.nx [id])=true:=by
  rw[i'];exact wq λu hu i hi=>by rw[List.mem_singleton.1 hi];exact(S6 u hu).2 id hge
 refine N1.val ⟨hfree,?_⟩;rw[I3];have e3:cM 1 H (Hp.mod ⟨sub,H.nx,[]⟩ id x) [] [id]=H.t.set id x:=by
  show bP H.t (sub.set id x) ([id]++cd H.nx (H.nx-H.nx))=_;rw[Nat.sub_self];show PT.put ((sub.set id x).get id) H.t id=_;rw[PT.dv,zB0 rfl];rfl
 show D1 E l (j+1) ms _ (bI A o.dst v) ⟨cM 1 H (Hp.mod ⟨sub,H.nx,[]⟩ id x) [] (db sub H.nx [id]),H.nx,db sub H.nx [id]++H.log⟩ Q;rw[i',e3];have hzz:Zq P n0 ⟨j,sub,H.nx,H.nx,[id]⟩:=⟨⟨λi hi=>by rw[List.mem_singleton.1 hi];exact hge,J2⟩,λh=>absurd h hjP⟩;exact Y0.2 _ (hdo _ rfl) (zc hz (show Zq P n0 ⟨j,sub,H.nx,H.nx,db sub H.nx [id]⟩ by rw[i'];exact hzz)) J2
variable{n0:Nat}
theorem q_d1{P:Nat}{o:Oper}(hj:before.length=j)(U1:du before did)(hz:∀u∈did,Zq P n0 u)(J2:n0≤H.nx)(h4:(Nat.blt (opK o) 3||cI o)=true)(hs:(Nat.beq (opK o) 2||bN (plK true o) m 0 before)=true)(h0:j<P->(opK o=0∨opK o=2)∧H.nx=n0)(ho:zy n0 o A)
  (hg:∀y n:R (aa×Hp),bB A.tm g y n=y) (hd:aK o.dst A.nt=true)
  (h:SK true E o A H λA' H'=>∀did',du (before++[opK o]) did'->(∀u∈did',Zq P n0 u)->n0≤H'.nx->(j<P->H'.nx=n0)->D1 E l (j+1) ms did' A' H' Q):D1 E (⟨g,o.dst,aI E.P o,o⟩::l) j (m::ms) did A H Q:=by
 cases S0:cI o with
 |true=>
  have hk:opK o=3:=by
   obtain⟨dst,op,type,pos,after,guard⟩:=o
   cases op with
   |call c=>
    obtain⟨ce,as,ts⟩:=c
    cases ce with
    |value f=>rfl
    |invoke _ _=>cases S0
    |builtin _=>cases S0
   |_=>cases S0
  have hjP:¬j<P:=λhP=>by have:=(h0 hP).1;omega
  obtain⟨d,f,as,ts,ty,pos,af,gd,rfl⟩:=Bj hk S0
  have z9:bN 6 m 0 before=true:=hs;have hlk2:bm ⟨d,.call ⟨.value f,as,ts⟩,ty,pos,af,gd⟩=2:=rfl;have hwe:WE true E A d (λA H=>∀did',du (before++[3]) did'->(∀u∈did',Zq P n0 u)->n0≤H.nx->(j<P->H.nx=n0)->D1 E l (j+1) ms did' A H Q) H ((aI E.P ⟨d,.call ⟨.value f,as,ts⟩,ty,pos,af,gd⟩).run A.tm H):=h;obtain⟨_,hcn⟩:=WE.inv hwe
  have hids:(aL m did).flatMap eb=[]:=by
   rw[List.eq_nil_iff_forall_not_mem];intro i hi;obtain⟨u,hu,hiu⟩:=List.mem_flatMap.1 hi
   rw[sM,U1.Xg z9 u hu i]at hiu;cases hiu
  have i':∀{h':Hp},Gr ⟨H.t,H.nx,[]⟩ h'->db H.t H.nx h'.log=[]:=λ{h'}hg=>by
   obtain⟨lg,e,hl⟩:=hg.log
   rw[List.eq_nil_iff_forall_not_mem];intro i hi;obtain⟨a1,a2,_⟩:=iI.1 hi
   rw[e,List.append_nil]at a1;rcases hl i a1 with h|h
   ·have h':H.nx≤i:=h;omega
   exact h
  have U0:aO H.t H.nx A.tm ⟨d,.call ⟨.value f,as,ts⟩,ty,pos,af,gd⟩ (aL m did)=H.t:=by
   unfold aO;rw[hlk2];show lR H.t ((aL m did).flatMap eb)=H.t;rw[hids];rfl
  refine D1.cons hg hd U0 ?_;have D9:(aI E.P ⟨d,.call ⟨.value f,as,ts⟩,ty,pos,af,gd⟩).run A.tm ⟨H.t,H.nx,[]⟩=(aI E.P ⟨d,.call ⟨.value f,as,ts⟩,ty,pos,af,gd⟩).run A.tm H:=rfl;rw[D9];refine(hcn []).mono λv h'⟨B1,Y0⟩=>⟨by rw[i' (B1 rfl)];exact dC _,?_⟩
  rw[hlk2,i' (B1 rfl)];have e1:cM 2 H h' (aL m did) []=h'.t:=by
   show bP h'.t H.t ((aL m did).flatMap eb)=h'.t;rw[hids];rfl
  rw[e1];have V0:H.nx≤h'.nx:=(B1 rfl).nx;refine Y0 ([]++H.log) (λX hf=>⟨hf.nx,hf.get,[],rfl,λi hi=>(by cases hi)⟩) _ ?_ ?_ (zA2 J2 V0) (λh=>absurd h hjP)
  ·have e2:note 2 j H.t H h' did []=⟨j,H.t,H.nx,h'.nx,[]⟩::did:=rfl;rw[e2];exact U1.cons hj.symm (by decide) (λh=>by cases h)
  have e2:note 2 j H.t H h' did []=⟨j,H.t,H.nx,h'.nx,[]⟩::did:=rfl;rw[e2];exact zc hz ⟨⟨λi hi=>(by cases hi),J2⟩,λh=>absurd h hjP⟩
 |false=>
  rw[S0,Bool.or_false]at h4;have Q_:opK o<3:=zA4 h4;generalize hk:opK o=k at Q_ hs h h0;have I3:=mf hk (by omega);obtain⟨hl,v,H',hn,Y0⟩:=SK.val S0 h
  rw[S0]at I3;match k,hk,Q_,hs,I3,h0 with
  |0,hk,_,hs,I3,h0=>
   rcases Nc hk (P:=E.P) (tm:=A.tm)with⟨v',hp⟩|hp
   ·have e:=(hp H).symm.trans hn;injection e with e1 e2
    subst e1 e2;exact D1.pure hg hd I3 (hp _) (Y0 _ (U1.more 0) hz J2 λh=>(h0 h).2)
   exact absurd hn (hp _ _ _)
  |1,hk,_,hs,I3,h0=>
   obtain⟨x,e1,e2⟩:=LP hk (P:=E.P) (tm:=A.tm) _ _ _ hn
   subst e1;refine D1.make hg hd I3 (e2 ⟨.leaf,H.nx,[]⟩ rfl) (Y0 _ (U1.cons hj.symm (by decide) (λh=>by cases h)) (zc hz ⟨⟨λi hi=>(by cases hi),J2⟩,λh=>?_⟩) (zA7 J2) λh=>?_)
   ·have:=(h0 h).1;omega
   have:=(h0 h).1;omega
  |2,hk,_,hs,I3,h0=>
   obtain⟨e1,e2⟩:=Am hk (P:=E.P) _ _ _ _ hn
   subst e1;have S2:Agr o A.tm H' ⟨aO H'.t H'.nx A.tm o (aL m did),H'.nx,[]⟩:=⟨rfl,λx hx id hid=>Gb I3 (uC hx) hid (hl.mem hx hid) λu hm=>by
    exact(hz u (cm.1 hm).1).old (ho hk _ hx _ hid)⟩
   refine D1.look hg hd I3 (e2 _ S2) λsub U0=>Y0 _ (U1.cons hj.symm (by decide) (λ_=>⟨rfl,rfl⟩)) (zc hz ⟨⟨λi hi=>(by cases hi),J2⟩,λh=>⟨rfl,rfl,λi hi=>?_⟩⟩) J2 λh=>(h0 h).2;subst U0;exact UU I3 (by have:=(h0 h).2;omega)
  |k+3,_,Q_,_,_,_=>omega
end
def wN(m P:Nat):Nat->List Nat->Bool
 |_,[]=>true
 |i,ki::ks=>(Nat.testBit m i||(Nat.beq ki 0||Nat.blt i P))&&wN m P (i+1) ks
theorem xQ{m P:Nat}:∀{ks:List Nat}{i:Nat},wN m P i ks=true->∀n k,ks[n]?=some k->Nat.testBit m (i+n)=true∨k=0∨i+n<P
 |[],i,_,n,k,h=>by cases h
 |x::ks,i,hp,0,k,h=>by
  cases h
  unfold wN at hp;rw[Bool.and_eq_true,Bool.or_eq_true,Bool.or_eq_true]at hp;exact hp.1.imp id λh=>h.imp zA3 zA4
 |x::ks,i,hp,n+1,k,h=>by
  unfold wN at hp;rw[Bool.and_eq_true]at hp;have:=xQ hp.2 n k h;have e:i+(n+1)=i+1+n:=by omega
  rw[e];exact this
def TH:List Oper->Nat
 |[]=>0
 |o::l=>bif Nat.beq (opK o) 0||Nat.beq (opK o) 2 then TH l+1 else 0
def lZ(o:Oper):Bool:=Nat.beq (opK o) 3&&!cI o
def DN(P:Nat):Nat->Nat->List Nat->List Oper->List Nat->Bool
 |0,_,before,l,ms=>wS before l ms
 |_+1,_,_,[],_=>true
 |k+1,j,before,o::os,m::ms=>((bif lZ o then wN m P 0 before else((Nat.blt (opK o) 3||cI o)&&(Nat.beq (opK o) 2||bN (plK true o) m 0 before)))&&(Nat.ble P j||(Nat.beq (opK o) 0||Nat.beq (opK o) 2)))&&DN P k (j+1) (before++[opK o]) os ms
 |_+1,_,_,_::_,[]=>false
def MJ(k:Nat)(ops:Array Oper):Bool:=dP ops&&DN (TH ops.toList) k 0 [] ops.toList (dM [] 0 ops.toList)
def SUq(n0:Nat)(E:Env)(o:Oper)(A:aa)(H:Hp)(next:aa->Hp->Prop)(g:GW):Prop:=
 match g with
 |.yes=>bif lZ o then SK true E o A H (λA' H'=>FrL n0 H H'∧next A' H')else zy n0 o A∧SK true E o A H next
 |.no=>next (bI A o.dst aD) H
 |.lost=>False
def SMq(E:Env)(Q:aa->Hp->Prop)(n0:Nat):Nat->List (Option (Option Tmp×Bool))->List Oper->aa->Hp->Prop
 |0,gs,l,A,H=>SL E Q gs l A H
 |_+1,_,[],A,H=>Q A H
 |_+1,[],_::_,_,_=>False
 |k+1,g::gs,o::l,A,H=>aK o.dst A.nt=true∧SUq n0 E o A H (SMq E Q n0 k gs l) (gw g A.tm)
theorem SMq.d1{E:Env}{ops:List Oper}{Q:aa->Hp->Prop}{P n0:Nat}:∀{k:Nat}{l:List Oper}{j:Nat}{ms:List Nat}{before:List Nat}{did:List Did}{A:aa}{H:Hp},before.length=j->du before did->(∀u∈did,Zq P n0 u)->n0≤H.nx->(j≤P->H.nx=n0)->DN P k j before l ms=true ->
  SMq E Q n0 k (l.map λo=>gOf ops o.guard) l A H->D1 E (fH E.P ops l) j ms did A H Q
 |0,l,j,ms,_,_,A,H,hj,U1,_,_,_,hs,h=>SL.d1 hj U1 (by unfold DN at hs;exact hs) (by unfold SMq at h;exact h)
 |_+1,[],j,ms,_,_,A,H,_,_,_,_,_,_,h=>D1.nil h
 |_+1,o::l,j,[],_,_,A,H,_,_,_,_,_,hs,_=>by cases hs
 |k+1,o::l,j,m::ms,before,did,A,H,hj,U1,hz,J2,hP,hs,h=>by
  unfold DN at hs;rw[Bool.and_eq_true,Bool.and_eq_true]at hs;obtain⟨⟨J5,hp⟩,L3⟩:=hs
  obtain⟨hd,hg⟩:=h
  have R5:(before++[opK o]).length=j+1:=by simp[hj]
  have R2:j<P->opK o=0∨opK o=2:=λC0=>by
   rw[Bool.or_eq_true,Bool.or_eq_true]at hp;rcases hp with hp|hp
   ·have:=zA4 hp;omega
   exact hp.imp zA3 zA3
  rcases nf (gOf ops o.guard) A.tm with⟨h1,h3⟩|⟨h1,h3⟩|h1
  ·rw[h1]at hg;cases B1:lZ o with
   |true=>
    rw[B1]at J5;have hg:SK true E o A H (λA' H'=>FrL n0 H H'∧SMq E Q n0 k (l.map λo=>gOf ops o.guard) l A' H'):=by
     have L_:(bif lZ o then SK true E o A H (λA' H'=>FrL n0 H H'∧SMq E Q n0 k (l.map λo=>gOf ops o.guard) l A' H')else zy n0 o A∧SK true E o A H (SMq E Q n0 k (l.map λo=>gOf ops o.guard) l)):=hg;rw[B1]at L_;exact L_
    have y_:=B1;unfold lZ at y_;rw[Bool.and_eq_true]at y_;have hk:opK o=3:=zA3 y_.1;have S0:cI o=false:=by simpa using y_.2
    have hjP:¬j<P:=λh=>by have:=R2 h;omega
    have S6:∀u∈aL m did,(u.wr=[]∧u.c0=u.c1)∧∀i,n0≤i->u.M1.get i=none:=λu hu=>by
     obtain⟨a1,a2⟩:=cm.1 hu
     obtain⟨ku,b1,b2,_⟩:=U1 u a1
     rcases xQ J5 u.idx ku b1 with h|h|h
     ·rw[Nat.zero_add,a2]at h;cases h
     ·exact absurd h b2
     obtain⟨c1,c2,c3⟩:=(hz u a1).2 (by omega)
     exact⟨⟨c1,c2⟩,c3⟩
    rw[hk]at R5 L3;exact ZV hz J2 hjP hj U1 hk S0 S6 h3 hd (SK.mono hg λA' H' hn=>⟨hn.1,λdid' L9 hz' D9=>SMq.d1 R5 L9 hz' D9 (λh=>by omega) L3 hn.2⟩)
   |false=>
    rw[B1,cond_false,Bool.and_eq_true]at J5;have hg:zy n0 o A∧SK true E o A H (SMq E Q n0 k (l.map λo=>gOf ops o.guard) l):=by
     have L_:(bif lZ o then SK true E o A H (λA' H'=>FrL n0 H H'∧SMq E Q n0 k (l.map λo=>gOf ops o.guard) l A' H')else zy n0 o A∧SK true E o A H (SMq E Q n0 k (l.map λo=>gOf ops o.guard) l)):=hg;rw[B1]at L_;exact L_
    exact q_d1 hj U1 hz J2 J5.1 J5.2 (λh=>⟨R2 h,hP (Nat.le_of_lt h)⟩) hg.1 h3 hd (SK.mono hg.2 λA' H' hn did' L9 hz' D9 hP'=>SMq.d1 R5 L9 hz' D9 (λh=>hP' (by omega)) L3 hn)
  ·rw[h1]at hg;exact D1.skip h3 hd (SMq.d1 R5 (U1.more _) hz J2 (λh=>hP (by omega)) L3 hg)
  rw[h1]at hg;exact hg.elim
section
variable{E:Env}{r:Option Nat}{z:Code}{B:aa}{H:Hp}{Q:ak->aa->Hp->Prop}
theorem R1.smq{id:Nat}{ops:Array Oper}(k:Nat)(hs:MJ k ops=true)(h:SMq E (λA H=>Q .normal A H) H.nx k (ops.toList.map λo=>gOf ops.toList o.guard) ops.toList B H):R1 E r (.region id ops true) B H Q:=by
 unfold MJ at hs;rw[Bool.and_eq_true]at hs;exact R1.draw hs.1 (SMq.d1 rfl (λu hu=>by cases hu) (λu hu=>by cases hu) (zA1 _) (λ_=>rfl) hs.2 h)
theorem R1.s_q{id:Nat}{ops:Array Oper}(k:Nat)(hs:MJ k ops=true)(h:∀K:aa->Hp->Prop,Hd (∀B H,R1 E r z B H Q->K B H)->SMq E K H.nx k (ops.toList.map λo=>gOf ops.toList o.guard) ops.toList B H):R1 E r (.seq (.region id ops true) z) B H Q:=
 R1.seq (R1.smq k hs (h _ λ_ _ h=>h))
theorem R1.e_q{id:Nat}{ops:Array Oper}(k:Nat)(hs:MJ k ops=true)(h:∀K:aa->Hp->Prop,Hd (∀B H,Q .normal B H->K B H)->SMq E K H.nx k (ops.toList.map λo=>gOf ops.toList o.guard) ops.toList B H):R1 E r (.region id ops true) B H Q:=
 R1.smq k hs (h _ λ_ _ h=>h)
end
section
variable{E:Env}{Q next:aa->Hp->Prop}{n0 k f n:Nat}{gs:List (Option (Option Tmp×Bool))}{g:Option (Option Tmp×Bool)}{o:Oper}{l:List Oper}{A:aa}{H:Hp}{d:Option Tmp}{t u ty:TypeId}{x y w:Operand}{b:BinOp}{c:UnOp}{ok:Bool}{as:Array Operand}{ts:Array TypeId}{fs:Array (Nat×Operand)}{pos:String}{af:Array Edge}{gd:Option (Nat×Bool)}
theorem Xs:SMq E Q n0 0 gs l A H=SL E Q gs l A H:=by unfold SMq;rfl
theorem Xk:SMq E Q n0 (k+1) gs [] A H=Q A H:=by cases gs<;>rfl
theorem Xo:SMq E Q n0 (k+1) (g::gs) (o::l) A H=(aK o.dst A.nt=true∧SUq n0 E o A H (SMq E Q n0 k gs l) (gw g A.tm)):=rfl
theorem Sw:SUq n0 E o A H next .no=next (bI A o.dst aD) H:=rfl
theorem jK{P:Prop}(h:lZ o=false)(h2:Nat.beq (opK o) 2=false)(e:SK true E o A H next=P):SUq n0 E o A H next .yes=P:=by
 subst e;unfold SUq;rw[h];exact propext ⟨λh=>h.2,λh=>⟨λe=>(by rw[e]at h2;cases h2),h⟩⟩
theorem Ux(h:lZ o=false)(h2:opK o=2)(h3:dw o=[x]):SUq n0 E o A H next .yes=(ltV (ev A.tm x) n0∧SK true E o A H next):=by
 unfold SUq zy;rw[h,h3];exact propext (and_congr_left' ⟨λh=>h h2 _ (List.mem_singleton.2 rfl),λh _ z hz=>by rw[List.mem_singleton.1 hz];exact h⟩)
theorem FE:SUq n0 E ⟨d,.load t x,ty,pos,af,gd⟩ A H next .yes=(ltV (ev A.tm x) n0∧SK true E ⟨d,.load t x,ty,pos,af,gd⟩ A H next):=Ux rfl rfl rfl
theorem vt:SUq n0 E ⟨d,.lookup t x y ok,ty,pos,af,gd⟩ A H next .yes=(ltV (ev A.tm x) n0∧SK true E ⟨d,.lookup t x y ok,ty,pos,af,gd⟩ A H next):=Ux rfl rfl rfl
theorem MA:SUq n0 E ⟨d,.call ⟨.builtin .len,⟨[x]⟩,⟨[t]⟩⟩,ty,pos,af,gd⟩ A H next .yes=(ltV (ev A.tm x) n0∧SK true E ⟨d,.call ⟨.builtin .len,⟨[x]⟩,⟨[t]⟩⟩,ty,pos,af,gd⟩ A H next):=Ux rfl rfl rfl
theorem Ay:SUq n0 E ⟨d,.store t x y,ty,pos,af,gd⟩ A H next .yes=SK true E ⟨d,.store t x y,ty,pos,af,gd⟩ A H (λA' H'=>FrL n0 H H'∧next A' H'):=rfl
theorem MX:SUq n0 E ⟨d,.call ⟨.builtin .append,⟨[x,y]⟩,⟨[t,u]⟩⟩,ty,pos,af,gd⟩ A H next .yes=SK true E ⟨d,.call ⟨.builtin .append,⟨[x,y]⟩,⟨[t,u]⟩⟩,ty,pos,af,gd⟩ A H (λA' H'=>FrL n0 H H'∧next A' H'):=rfl
theorem HW:SUq n0 E ⟨d,.call ⟨.value x,as,ts⟩,ty,pos,af,gd⟩ A H next .yes=SK true E ⟨d,.call ⟨.value x,as,ts⟩,ty,pos,af,gd⟩ A H next:=jK rfl rfl rfl
theorem DI:SUq n0 E ⟨d,.move x,ty,pos,af,gd⟩ A H next .yes=next (bI A d (ev A.tm x)) H:=jK rfl rfl CU
theorem uG:SUq n0 E ⟨d,.assign x,ty,pos,af,gd⟩ A H next .yes=next (bI A d (ev A.tm x)) H:=jK rfl rfl sk
theorem rk:SUq n0 E ⟨d,.nilCheck x,ty,pos,af,gd⟩ A H next .yes=SK true E ⟨d,.nilCheck x,ty,pos,af,gd⟩ A H next:=jK rfl rfl rfl
theorem QF:SUq n0 E ⟨d,.fieldAddr t x f,ty,pos,af,gd⟩ A H next .yes=SK true E ⟨d,.fieldAddr t x f,ty,pos,af,gd⟩ A H next:=jK rfl rfl rfl
theorem QP:SUq n0 E ⟨d,.indexAddr t x y,ty,pos,af,gd⟩ A H next .yes=SK true E ⟨d,.indexAddr t x y,ty,pos,af,gd⟩ A H next:=jK rfl rfl rfl
theorem xI:SUq n0 E ⟨d,.build t fs,ty,pos,af,gd⟩ A H next .yes=SK true E ⟨d,.build t fs,ty,pos,af,gd⟩ A H next:=jK rfl rfl rfl
theorem Uo:SUq n0 E ⟨d,.buildSlice t n fs,ty,pos,af,gd⟩ A H next .yes=SK true E ⟨d,.buildSlice t n fs,ty,pos,af,gd⟩ A H next:=jK rfl rfl rfl
theorem JZ:SUq n0 E ⟨d,.binOp b t x y u,ty,pos,af,gd⟩ A H next .yes=SK true E ⟨d,.binOp b t x y u,ty,pos,af,gd⟩ A H next:=jK rfl rfl rfl
theorem PQ:SUq n0 E ⟨d,.unOp c t x,ty,pos,af,gd⟩ A H next .yes=SK true E ⟨d,.unOp c t x,ty,pos,af,gd⟩ A H next:=jK rfl rfl rfl
theorem DZ:SUq n0 E ⟨d,.pick x y w,ty,pos,af,gd⟩ A H next .yes=SK true E ⟨d,.pick x y w,ty,pos,af,gd⟩ A H next:=jK rfl rfl rfl
theorem yh:SUq n0 E ⟨d,.alloc t,ty,pos,af,gd⟩ A H next .yes=SK true E ⟨d,.alloc t,ty,pos,af,gd⟩ A H next:=jK rfl rfl rfl
theorem Nh:SUq n0 E ⟨d,.box t x,ty,pos,af,gd⟩ A H next .yes=SK true E ⟨d,.box t x,ty,pos,af,gd⟩ A H next:=jK rfl rfl rfl
end
theorem qQ:type_of% (zDm @Xs @Xk @Xo @Sw @FE @vt @MA @Ay @MX @HW @DI (zDl @uG @rk @QF @QP @xI @Uo @JZ @PQ @DZ @yh @Nh)):=zDm @Xs @Xk @Xo @Sw @FE @vt @MA @Ay @MX @HW @DI (zDl @uG @rk @QF @QP @xI @Uo @JZ @PQ @DZ @yh @Nh)
theorem FrL.of{n0:Nat}{X:Nat->Prop}{H H':Hp}(h:Fr X H H')(hx:∀i,X i->n0≤i):FrL n0 H H':=by
 obtain⟨l,e,f⟩:=h.log
 exact⟨l,e,λi hi=>(f i hi).imp id (hx i)⟩
theorem MD{P:Program}{H:Hp}{t e:TypeId}{sz by_ n:Nat}{z:Value}{v:AC}{cells:List AC}(he:bt P t=some (e,sz))(hb:cK P e=some by_)(hz:ay P e=some z)(B2:(ofValue z).cells.length=sz)(L1:sz≠0)
  (hv:SlC H v sz n cells) (h2:n≤140737488355328∧n*by_≤140737488355328):∃v' H',bh P H t (.one (.o .nilS)) (.one v)=.val (.one v') H'∧SlC H' v' sz n cells∧(∀id∈(AV.one v').ids,H.nx≤id)∧Gr H H':=by
 obtain⟨v',H',r',h1,h2,h3,h4⟩:=Va he hb hz B2 L1 hv h2
 refine⟨v',H',h1,h2.slc,λi hi=>?_,h3⟩
 rcases h2 with⟨rfl,_⟩|⟨id,_,_,hr,rfl,_⟩
 ·cases hi
 rw[List.mem_singleton.1 hi];exact h4 id hr
theorem zQ{p a b:Prop}(f:p)(hb:b)(e:p->Hd b->a:=by
  intro f hW;simp only[qB,qQ,qJ,aK,Nat.reduceLT,Nat.reduceEqDiff,Nat.reduceLeDiff,reduceIte,Nat.reduceAdd,Nat.reduceSub,Nat.reduceMul,Int.reduceLT,Int.reduceLE,Int.reduceBEq, *];exact hW.out):a:=e f hb
theorem zO{p a b:Prop}(f:p)(hb:b)(e:p->Hd b->a:=by
  intro f hW;repeat refine R1.aF ?_
  (first|refine R1.s_q 1000 (by kernel_rfl) λK hK=>?_|refine R1.e_q 1000 (by kernel_rfl) λK hK=>?_)
  simp only[qB,qQ,aK,Nat.reduceLT,Nat.reduceEqDiff,Nat.reduceLeDiff,reduceIte,Nat.reduceAdd,Nat.reduceSub,Nat.reduceMul,Int.reduceLT,Int.reduceLE,Int.reduceBEq, *];revert K
  exact hW.out):a:=e f hb
end Go.Eng

/- A part of the proof: EngOwn, EngIter, EngMap, EngOpen, EngBun, EngOws, EngRow, EngDrw, EngOpS, EngPlain, EngWk, EngStar. No conditions. -/
import Derived.Test.YtnhbkodnmkojpaaGreatRAh
import Derived.Deep.Slices
import Derived.SizedLaws
import Derived.KernelRfl
set_option maxRecDepth 100000
set_option maxHeartbeats 64000000
set_option linter.unusedVariables false
set_option linter.unusedSimpArgs false
noncomputable section
namespace Go.Eng
open Go
def dm (H:Hp) (v:AC) (e:TypeId) (sz n:Nat) (cells:List AC) (r:Option Nat):Prop:=
 (v=.o .nilS∧n=0∧cells=[]∧r=none)∨∃ id lo gen,r=some id∧v=.o (.sl id gen 0 n sz)∧H.get id=some (.arr cells e lo gen)∧lo≤gen∧cells.length=n*sz∧id<H.nx
theorem dm.fr {H H':Hp} {v:AC} {e:TypeId} {sz n:Nat} {cells:List AC} {r:Option Nat} {X:Nat→Prop} (h:dm H v e sz n cells r) (hf:Fr X H H') (hx:∀ i,r=some i→¬X i):dm H' v e sz n cells r:=by
 rcases h with h|⟨id,lo,gen,h1,h2,h3,h4,h5,h6⟩
 ·exact .inl h
 exact .inr ⟨id,lo,gen,h1,h2,(hf.get id h6 (hx id h1)).trans h3,h4,h5,zA0 h6 hf.nx⟩
theorem dm.lt {H:Hp} {v:AC} {e:TypeId} {sz n:Nat} {cells:List AC} {r:Option Nat} (h:dm H v e sz n cells r):ltV (.one v) H.nx:=by
 rcases h with ⟨rfl,_⟩|⟨id,lo,gen,_,rfl,_,_,_,h6⟩
 ·rw[tW];trivial
 rw[Ch];exact h6
theorem dm.slc {H:Hp} {v:AC} {e:TypeId} {sz n:Nat} {cells:List AC} {r:Option Nat} (h:dm H v e sz n cells r):SlC H v sz n cells:=by
 rcases h with ⟨rfl,rfl,rfl,_⟩|⟨id,lo,gen,_,rfl,h3,h4,h5,h6⟩
 ·exact ⟨by simp,.inl ⟨rfl,rfl⟩⟩
 refine ⟨h5,.inr ⟨id,gen,0,rfl,h6,cells,by rw[h3];exact bF h4 (zA1 _),by omega,?_⟩⟩;rw[List.drop_zero,List.take_of_length_le (by omega)]
theorem fK {H:Hp} {id g off len sz:Nat} {cells:List AC} (h:rowOf (H.get id) g=some cells) (hl:off+len*sz≤cells.length):ff H sz (.one (.o (.sl id g off len sz)))=some (len,(cells.drop off).take (len*sz)):=by
 have hr:fg H id g off (Nat.mul len sz) (Nat.mul len sz)=some ((cells.drop off).take (len*sz)):=by
  unfold fg;rw[LL,h];simp only[Option.bind_some];rw[zB0 ⟨zA1 _,hl⟩];rfl
 show (match Nat.beq sz sz,fg H id g off (Nat.mul len sz) (Nat.mul len sz) with|true,some c=>some (len,c)|_,_=>none)=_;rw[Nat.beq_refl,hr]
theorem oW {P:Program} {H:Hp} {t e:TypeId} {sz by_ n k:Nat} {z:Value} {v:AC} {x:AV} {cells c:List AC} {r:Option Nat} (he:ba P t=some (e,sz)) (hb:bW P e=some by_) (hz:ax P e=some z) (X0:(ofValue z).cells.length=sz) (J1:sz≠0)
  (ho:dm H v e sz n cells r) (hs:ff H sz x=some (k,c)) (hk:k≠0) (hc:c.length=k*sz) (h1:n+k≤140737488355328) (h2:(n+k)*by_≤140737488355328):
  ∃ v' H' r',aL P H t (.one v) x=.val (.one v') H'∧dm H' v' e sz (n+k) (cells++c) (some r')∧Fr (fun i=>r=some i) H H'∧(r=some r'∨r=none∧r'=H.nx):=by
 have e1:Nat.beq sz 0=false:=by
  cases h:Nat.beq sz 0 with
  | false=>rfl
  | true=>exact absurd (zA3 h) J1
 have e2:Nat.beq k 0=false:=by
  cases h:Nat.beq k 0 with
  | false=>rfl
  | true=>exact absurd (zA3 h) hk
 have e3:both (!Nat.beq sz 0) (Nat.beq (bh (ofValue z).cells) sz)=true:=by rw[e1,aX,X0,Nat.beq_refl];rfl
 have step:aL P H t (.one v) x=dp H e sz by_ k c (.one v):=by
  unfold aL;simp only[he,hb,hz,nd,e3,aF,hs]
 rcases ho with ⟨rfl,rfl,rfl,rfl⟩|⟨id,lo,gen,rfl,rfl,h3,h4,h5,h6⟩
 ·refine ⟨.o (.sl H.nx 0 0 k sz),H.new (.arr c e 0 0),H.nx,?_,.inr ⟨H.nx,0,0,rfl,by rw[Nat.zero_add],by rw[aB rfl,List.nil_append],zA1 _,by rw[List.nil_append,Nat.zero_add,hc],zA6 _⟩,(Fr.refl _).new _,.inr ⟨rfl,rfl⟩⟩;rw[step];show Eng.ifE (Nat.beq k 0) _ (aF (both (Nat.ble k 140737488355328) (Nat.ble (Nat.mul k by_) 140737488355328)) _ _)=_;rw[Nat.zero_add] at h1 h2;have f2:Nat.ble (Nat.mul k by_) 140737488355328=true:=zA5 h2;rw[e2,zA5 h1,f2];rfl
 refine ⟨.o (.sl id (gen+1) 0 (n+k) sz),H.mod id (.arr (cells++c) e lo (gen+1)),id,?_,.inr ⟨id,lo,gen+1,rfl,rfl,al rfl,zA7 h4,by rw[List.length_append,h5,hc,Nat.add_mul],h6⟩,(Fr.refl _).mod _ (.inr rfl),.inl rfl⟩;rw[step];show lF (H.get id) _ _=_;rw[h3];show aF (both (Nat.beq sz sz) (both (Nat.beq e e) (both (Nat.ble lo gen) (both (Nat.ble gen gen) (both (Nat.ble (Nat.add 0 (Nat.mul n sz)) (bh cells)) (both (Nat.ble (Nat.add n k) 140737488355328) (Nat.ble (Nat.mul (Nat.add n k) by_) 140737488355328))))))) _
  (Eng.ifE (Nat.beq k 0) _ (Eng.ifE (both (Nat.beq gen gen) (both (Nat.beq 0 0) (Nat.beq (Nat.mul n sz) (bh cells)))) _ _))=_
 have g5:Nat.ble (Nat.add 0 (Nat.mul n sz)) (bh cells)=true:=by
  rw[aX,h5];exact zA5 (by show 0+n*sz≤n*sz;omega)
 have g6:Nat.ble (Nat.add n k) 140737488355328=true:=zA5 h1;have g7:Nat.ble (Nat.mul (Nat.add n k) by_) 140737488355328=true:=zA5 h2;have g8:Nat.beq (Nat.mul n sz) (bh cells)=true:=by
  rw[aX,h5];exact Nat.beq_refl (n*sz)
 rw[Nat.beq_refl,Nat.beq_refl,Nat.beq_refl,zA5 h4,zA5 (zA1 gen),g5,g6,g7,g8,e2,ga];rfl
theorem R1.qu {E:Env} {r:Option Nat} {A:ab} {H:Hp} {Q:aA→ab→Hp→Prop} {id:Nat} {c:Code} (h:∀ K:aA→ab→Hp→Prop,(∀ A H,Q .normal A H→K .normal A H)→(∀ A H,Q .normal A H→K (.exit id) A H)→(∀ i A H,i≠id→Q (.exit i) A H→K (.exit i) A H)→(∀ A H,Q .ret A H→K .ret A H)→R1 E r c A H K):R1 E r (.block id c) A H Q:=by
 refine R1.block (h _ (fun _ _ h=>h) (fun A H h=>?_) (fun i A H hi h=>?_) fun _ _ h=>h)
 ·show if id=id then Q .normal A H else Q (.exit id) A H;rw[zB0 rfl];exact h
 show if i=id then Q .normal A H else Q (.exit i) A H;rw[zB1 hi];exact h
structure Sm (L:Nat) (H H':Hp):Prop where
 nx:H.nx≤H'.nx
 get:∀ i,i<H.nx→i≠L→H'.get i=H.get i
theorem Sm.refl {L:Nat} (H:Hp):Sm L H H:=⟨zA1 _,fun _ _ _=>rfl⟩
theorem Sm.same {L:Nat} {H H':Hp} (ht:H'.t=H.t) (hn:H'.nx=H.nx):Sm L H H':=⟨Nat.le_of_eq hn.symm,fun i _ _=>by show H'.t.get i=H.t.get i;rw[ht]⟩
theorem Sm.trans {L:Nat} {H H1 H2:Hp} (h:Sm L H H1) (k:Sm L H1 H2):Sm L H H2:=
 ⟨zA2 h.nx k.nx,fun i hi hn=>(k.get i (zA0 hi h.nx) hn).trans (h.get i hi hn)⟩
theorem Sm.mod {L:Nat} (H:Hp) (o:aN):Sm L H (H.mod L o):=⟨zA1 _,fun i _ hn=>aI hn⟩
def Yk (E:Env) (n:ae) (H:Hp) (X:Nat→Prop) (Q:AV→Hp→Prop):Prop:=
 ∀ lg,N1 E ⟨H.t,H.nx,lg⟩ n fun v h'=>Fr X ⟨H.t,H.nx,lg⟩ h'∧∀ lg',Q v ⟨h'.t,h'.nx,lg'⟩
section
variable {E:Env} {H:Hp} {X:Nat→Prop} {Q:AV→Hp→Prop}
theorem WE.conR {A:ab} {d:Option Tmp} {next:ab→Hp→Prop} {id:Nat} {args:List AV} (h:Yk E (.round id args) H X Q) (hn:∀ v H',Fr X H H'→Q v H'→next (bx A d v) H'):WE false E A d next H (.round id args):=fun lg=>
 (h lg).mono fun _ _ ⟨h1,h2⟩=>⟨fun h=>(by cases h),fun lg' hx=>hn _ _ (hx X h1) (h2 lg')⟩
theorem AN {P:Program} {id:Nat} {args:List AV}:lD P (.one (.o (.yl id))) args=.round id args:=rfl
end
def eE (tm:PT AV) (nt:Nat) (ps:List Tmp) (as bo:Code) (d:Nat) (st:LoopState) (pe:Option Code):aN:=.oth (.loop st pe tm nt ps as bo d)
def JR (tm:PT AV) (nt:Nat) (ps:List Tmp) (as bo:Code) (d:Nat):aA→aN
 | .normal=>eE tm nt ps as bo d .ready none
 | .ret=>eE tm nt ps as bo d .done (some .ret)
 | .exit k=>eE tm nt ps as bo d .done (some (.exit k))
def IM:aA→Bool
 | .normal=>true
 | _=>false
theorem N1.round {E:Env} {H:Hp} {L:Nat} {args:List AV} {Q:AV→Hp→Prop} {tm:PT AV} {nt:Nat} {ps:List Tmp} {as bo:Code} {d:Nat}
  (hg:H.get L=some (eE tm nt ps as bo d .ready none)) (hl:args.length=ps.length) (hp:(ps.all fun p=>Nat.blt p nt)=true)
  (h:R1 E (some L) as ⟨fe ps args tm,nt,[]⟩ H fun e A1 H1=>e=.normal∧H1.get L=some (eE tm nt ps as bo d .ready none) ∧
   R1 E (some L) bo A1 (H1.mod L (eE tm nt ps as bo d .busy none)) fun e A2 H2=>A2.dfr=[]∧H2.get L=some (eE tm nt ps as bo d .busy none)∧Q (.one (.b (IM e))) (H2.mod L (JR tm nt ps as bo d e))):
  N1 E H (.round L args) Q:=by
 obtain ⟨n,e,A1,H1,h1,rfl,h2,k,e2,A2,H2,h3,h4,h5,h6⟩:=h;refine ⟨max n k+1,.one (.b (IM e2)),H2.mod L (JR tm nt ps as bo d e2),?_,h6⟩;have a1:=dO (di E (Nat.le_max_left n k)) as (some L) _ _ _ h1;have a2:=dO (di E (Nat.le_max_right n k)) bo (some L) _ _ _ h3;show fR (eval E (max n k+1)) L args H=_;unfold fR;rw[hg];have hb:both (Nat.beq (ot args) (ot ps)) (ps.all fun p=>Nat.blt p nt)=true:=by
  rw[hp];have:Nat.beq (ot args) (ot ps)=true:=by rw[show ot args=ot ps from hl];exact Nat.beq_refl _
  rw[this];rfl
 show Eng.ifE (both (Nat.beq (ot args) (ot ps)) (ps.all fun p=>Nat.blt p nt)) (((eval E (max n k+1)).code (some L) as ⟨fe ps args tm,nt,[]⟩ H).bind (eR (eval E (max n k+1)) L bo)) _=_;rw[hb];have c1:(eval E (max n k+1)).code (some L) as ⟨fe ps args tm,nt,[]⟩ H=.ok [(.normal,A1,H1)]:=a1;show ((eval E (max n k+1)).code (some L) as ⟨fe ps args tm,nt,[]⟩ H).bind (eR (eval E (max n k+1)) L bo)=_;rw[c1];show eR (eval E (max n k+1)) L bo (.normal,A1,H1)=_;unfold eR;simp only[h2];show ((eval E (max n k+1)).code (some L) bo A1 (H1.mod L (eE tm nt ps as bo d .busy none))).bind (iR L)=_;have c2:(eval E (max n k+1)).code (some L) bo A1 (H1.mod L (eE tm nt ps as bo d .busy none))=.ok [(e2,A2,H2)]:=a2;rw[c2];show iR L (e2,A2,H2)=_;unfold iR;simp only[h4,h5];cases e2 <;> rfl
structure YB (E:Env) (L:Nat) (n:Nat) (ar:Nat→List AV) (D:Nat→Prop) (σ:Type) where
 J:Nat→σ→Hp→Prop
 F:σ→Hp→Prop
 fp:σ→Nat→Prop
 hJ:∀ {i s H H'},J i s H→H.nx≤H'.nx→(∀ k,k<H.nx→H'.get k=H.get k)→J i s H'
 hF:∀ {s H H'},F s H→H.nx≤H'.nx→(∀ k,k<H.nx→H'.get k=H.get k)→F s H'
 hl:∀ {i s H k},J i s H→fp s k→k<H.nx∧¬D k
 pass:∀ i s H,i<n→J i s H→Yk E (.round L (ar i)) H (fp s) fun v H'=>∃ b s',v=.one (.b b)∧(b=true→J (i+1) s' H')∧(b=false→F s' H')∧∀ k,fp s' k→fp s k∨H.nx≤k
def ItC (E:Env) (g:FuncId) (caps:List (Nat×Nat×Nat×Nat)) (n:Nat) (ar:Nat→List AV) (D:Nat→Prop) (H0:Hp):Prop:=
 ∀ (σ:Type) (L:Nat) (B:YB E L n ar D σ) (s:σ) (H:Hp),H0.nx≤H.nx→(∀ k,k<H0.nx→H.get k=H0.get k)→B.J 0 s H →
  Con E g (.one (.o (.yl L))::fb caps) H (B.fp s) fun _ H'=>∃ s',(B.J n s' H'∨B.F s' H')∧∀ k,B.fp s' k→B.fp s k∨H.nx≤k
theorem C1.Xs {E:Env} {f:FuncId} {args:List AV} {H:Hp} {X:Nat→Prop} {Q:AV→Hp→Prop} (hp:E.gp f args=none) (h:Con E f args H X Q):C1 E f args H fun v H'=>Fr X H H'∧Q v H':=by
 obtain ⟨n,v,H',h1,h2,h3⟩:=h H.log;have D6:mS E (eval E n) f args H=.ok [(v,H')]:=h1;unfold mS at D6;rw[hp] at D6;exact ⟨n,v,H',D6,h2,h3 H'.log⟩
theorem R1.XU {E:Env} {A:ab} {H:Hp} {Q:aA→ab→Hp→Prop} {f:Operand} {params:Array Tmp} {as bo:Code} {g:FuncId} {caps:List (Nat×Nat×Nat×Nat)}
  (hf:ev A.tm f=.one (.o (.clo g caps))) (hb:ak E.P g=true)
  (h:C1 E g (.one (.o (.yl (H.nx+1)))::fb caps) ((H.new (.oth (.dfr true))).new (eE A.tm A.nt params.toList as bo H.nx .ready none)) fun _ H3=>
   ∃ e,H3.get (H.nx+1)=some (JR A.tm A.nt params.toList as bo H.nx e)∧∀ o,Q e ⟨A.tm,A.nt,H.nx::A.dfr⟩ (H3.mod (H.nx+1) o)):
  R1 E none (.rangeFunc f params as bo) A H Q:=by
 obtain ⟨n,v,H3,h1,e,h2,h3⟩:=h;have key:∀ o,eP (H.nx+1) ⟨A.tm,A.nt,H.nx::A.dfr⟩ (v,H3)=.ok [(e,⟨A.tm,A.nt,H.nx::A.dfr⟩,H3.mod (H.nx+1) o)]→R1 E none (.rangeFunc f params as bo) A H Q:=fun o ho=>by
  refine ⟨n,e,⟨A.tm,A.nt,H.nx::A.dfr⟩,H3.mod (H.nx+1) o,?_,h3 o⟩;show gP E (eval E n) none (opF f) params.toList as bo A H=_;unfold gP;show (match (opF f).ev A.tm with
   | .one (.o (.clo g caps))=>Eng.ifE (ak E.P g) (((eval E n).call g (.one (.o (.yl (H.nx+1)))::fb caps) ((H.new (.oth (.dfr true))).new (eE A.tm A.nt params.toList as bo H.nx .ready none))).bind (eP (H.nx+1) ⟨A.tm,A.nt,H.nx::A.dfr⟩)) (.bad "rangeFunc - no body")
   | _=>.bad "rangeFunc - no function")=_
  have hf':(opF f).ev A.tm=.one (.o (.clo g caps)):=hf;rw[hf'];show Eng.ifE (ak E.P g) _ _=_;rw[hb];show ((eval E n).call g (.one (.o (.yl (H.nx+1)))::fb caps) ((H.new (.oth (.dfr true))).new (eE A.tm A.nt params.toList as bo H.nx .ready none))).bind (eP (H.nx+1) ⟨A.tm,A.nt,H.nx::A.dfr⟩)=_;rw[h1];exact ho
 cases e with
 | normal=>exact key _ (by unfold eP;simp only[h2,JR,eE];rfl)
 | ret=>exact key _ (by unfold eP;simp only[h2,JR,eE];rfl)
 | exit i=>exact key _ (by unfold eP;simp only[h2,JR,eE];rfl)
theorem R1.range {E:Env} {A:ab} {H:Hp} {Q:aA→ab→Hp→Prop} {f:Operand} {params:Array Tmp} {as bo:Code} {g:FuncId} {caps:List (Nat×Nat×Nat×Nat)} {n:Nat} {ar:Nat→List AV} {D:Nat→Prop} {σ:Type}
  (hf:ev A.tm f=.one (.o (.clo g caps))) (hb:ak E.P g=true) (hpr:∀ args,E.gp g args=none) (S3:ItC E g caps n ar D H) (hD:∀ k,D k→k<H.nx)
  (Z8:(params.toList.all fun p=>Nat.blt p A.nt)=true) (v8:∀ i,i<n→(ar i).length=params.toList.length)
  (J:Nat→σ→Hp→Prop) (F:aA→σ→Hp→Prop) (fp:σ→Nat→Prop)
  (hJ:∀ {i s H1 H2},J i s H1→Sm (H.nx+1) H1 H2→J i s H2) (hF:∀ {e s H1 H2},F e s H1→Sm (H.nx+1) H1 H2→F e s H2)
  (hl:∀ {i s H1 k},J i s H1→fp s k→k<H1.nx∧k≠H.nx∧k≠H.nx+1∧¬D k)
  (s0:σ) (h0:∀ H1,Gr H H1→H1.nx=H.nx+2→J 0 s0 H1)
  (body:∀ i s H1,i<n→J i s H1→H.nx+2≤H1.nx→R1 E (some (H.nx+1)) as ⟨fe params.toList (ar i) A.tm,A.nt,[]⟩ H1 fun e A1 H2=>e=.normal∧Fr (fp s) H1 H2 ∧
   ∀ H3,H3.nx=H2.nx→Sm (H.nx+1) H2 H3→R1 E (some (H.nx+1)) bo A1 H3 fun e A2 H4=>A2.dfr=[]∧Fr (fun k=>fp s k∨H1.nx≤k) H3 H4∧∃ s',(e=.normal→J (i+1) s' H4)∧(e≠.normal→F e s' H4)∧∀ k,fp s' k→fp s k∨H1.nx≤k)
  (hn:∀ s' H5,J n s' H5→H.nx+2≤H5.nx→H5.get H.nx=some (.oth (.dfr true))→Fr (fp s0) H H5→(∀ k,fp s' k→fp s0 k∨H.nx≤k)→Q .normal ⟨A.tm,A.nt,H.nx::A.dfr⟩ H5)
  (hx:∀ e s' H5,e≠.normal→F e s' H5→H.nx+2≤H5.nx→H5.get H.nx=some (.oth (.dfr true))→Fr (fp s0) H H5→(∀ k,fp s' k→fp s0 k∨H.nx≤k)→Q e ⟨A.tm,A.nt,H.nx::A.dfr⟩ H5):
  R1 E none (.rangeFunc f params as bo) A H Q:=by
 have gL:Gr H ((H.new (.oth (.dfr true))).new (eE A.tm A.nt params.toList as bo H.nx .ready none)):=((Fr.refl _).new _).new _;have nL:((H.new (.oth (.dfr true))).new (eE A.tm A.nt params.toList as bo H.nx .ready none)).nx=H.nx+2:=rfl;have rL:((H.new (.oth (.dfr true))).new (eE A.tm A.nt params.toList as bo H.nx .ready none)).get (H.nx+1)=some (eE A.tm A.nt params.toList as bo H.nx .ready none):=aB rfl;have rd:((H.new (.oth (.dfr true))).new (eE A.tm A.nt params.toList as bo H.nx .ready none)).get H.nx=some (.oth (.dfr true)):=by
  rw[aW (by rw[td];omega),aB rfl]
 let B:YB E (H.nx+1) n ar D (aA×σ):=
  { J:=fun i s H1=>J i s.2 H1∧H1.get (H.nx+1)=some (eE A.tm A.nt params.toList as bo H.nx .ready none)∧H1.get H.nx=some (.oth (.dfr true))∧H.nx+2≤H1.nx
    F:=fun s H1=>s.1≠.normal∧F s.1 s.2 H1∧H1.get (H.nx+1)=some (JR A.tm A.nt params.toList as bo H.nx s.1)∧H1.get H.nx=some (.oth (.dfr true))∧H.nx+2≤H1.nx
    fp:=fun s k=>fp s.2 k∨k=H.nx+1
    hJ:=fun {i s H1 H2} ⟨h1,h2,h3,h4⟩ hn hg=>⟨hJ h1 ⟨hn,fun k hk _=>hg k hk⟩,by rw[hg _ (by omega)];exact h2,by rw[hg _ (by omega)];exact h3,zA2 h4 hn⟩
    hF:=fun {s H1 H2} ⟨h0,h1,h2,h3,h4⟩ hn hg=>⟨h0,hF h1 ⟨hn,fun k hk _=>hg k hk⟩,by rw[hg _ (by omega)];exact h2,by rw[hg _ (by omega)];exact h3,zA2 h4 hn⟩
    hl:=fun {i s H1 k} ⟨h1,h2,h3,h4⟩ hk=>by
     rcases hk with hk|rfl
     ·exact ⟨(hl h1 hk).1,(hl h1 hk).2.2.2⟩
     exact ⟨by omega,fun h=>by have:=hD _ h;omega⟩
    pass:=fun i s H1 hi ⟨h1,h2,h3,h4⟩ lg=>by
     have s1:Sm (H.nx+1) H1 ⟨H1.t,H1.nx,lg⟩:=Sm.same rfl rfl;have j1:=hJ h1 s1;have g2:(⟨H1.t,H1.nx,lg⟩:Hp).get (H.nx+1)=some (eE A.tm A.nt params.toList as bo H.nx .ready none):=h2;have g3:(⟨H1.t,H1.nx,lg⟩:Hp).get H.nx=some (.oth (.dfr true)):=h3;have n4:H.nx+2≤(⟨H1.t,H1.nx,lg⟩:Hp).nx:=h4;have e0:H1.nx=(⟨H1.t,H1.nx,lg⟩:Hp).nx:=rfl;rw[e0];generalize (⟨H1.t,H1.nx,lg⟩:Hp)=H1 at j1 g2 g3 n4 ⊢;have nfL:¬fp s.2 (H.nx+1):=fun h=>(hl j1 h).2.2.1 rfl;have nfd:¬fp s.2 H.nx:=fun h=>(hl j1 h).2.1 rfl;refine N1.round g2 (v8 i hi) Z8 ((body i s.2 H1 hi j1 n4).mono fun e A1 Ha ⟨he,hfa,k8⟩=>⟨he,(hfa.get _ (by omega) nfL).trans g2,?_⟩);have na:=hfa.nx;refine (k8 (Ha.mod (H.nx+1) (eE A.tm A.nt params.toList as bo H.nx .busy none)) rfl (Sm.mod _ _)).mono fun e2 A2 H4 ⟨C0,hf4,s',hj,hf,T8⟩=>?_;have n5:H1.nx≤H4.nx:=zA2 na hf4.nx;have gB:H4.get (H.nx+1)=some (eE A.tm A.nt params.toList as bo H.nx .busy none):=by
      rw[hf4.get _ (by rw[MV];omega) (fun h=>h.elim nfL fun h=>by omega),al rfl]
     have gD:H4.get H.nx=some (.oth (.dfr true)):=by
      rw[hf4.get _ (by rw[MV];omega) (fun h=>h.elim nfd fun h=>by omega),aI (by omega),hfa.get _ (by omega) nfd,g3]
     refine ⟨C0,gB,?_,fun lg'=>⟨IM e2,(e2,s'),rfl,fun hb=>?_,fun hb=>?_,fun k hk=>?_⟩⟩
     ·have f1:Fr (fun k=>fp s.2 k∨k=H.nx+1) H1 (Ha.mod (H.nx+1) (eE A.tm A.nt params.toList as bo H.nx .busy none)):=(hfa.mono fun _ h=>.inl h).mod _ (.inr (.inr rfl));exact (f1.then hf4 fun k hk=>hk.elim (fun h=>.inr (.inl h)) fun h=>.inl h).mod _ (.inr (.inr rfl))
     ·have he:e2=.normal:=by cases e2 <;> first|rfl|cases hb
      subst he;exact ⟨hJ (hj rfl) ((Sm.mod _ _).trans (Sm.same rfl rfl)),al rfl,by show (H4.mod _ _).get _=_;rw[aI (by omega)];exact gD,by show H.nx+2≤H4.nx;omega⟩
     ·have he:e2≠.normal:=fun h=>by subst h;cases hb
      exact ⟨he,hF (hf he) ((Sm.mod _ _).trans (Sm.same rfl rfl)),al rfl,by show (H4.mod _ _).get _=_;rw[aI (by omega)];exact gD,by show H.nx+2≤H4.nx;omega⟩
     rcases hk with hk|hk
     ·rcases T8 k hk with h|h
      ·exact .inl (.inl h)
      exact .inr h
     exact .inl (.inr hk) }
 refine R1.XU hf hb ?_;have O4:=S3 (aA×σ) (H.nx+1) B (.normal,s0) _ gL.nx (fun k hk=>gL.get k hk zB2) ⟨h0 _ gL nL,rL,rd,Nat.le_of_eq nL.symm⟩;refine (C1.Xs (hpr _) O4).mono fun v H3 ⟨T5,s',hjf,T8⟩=>?_;have hfr':Fr (fun k=>fp s0 k∨k=H.nx+1) _ H3:=T5;have f1:∀ o,Fr (fp s0) H (H3.mod (H.nx+1) o):=fun o=>(gL.none.then hfr' fun k hk=>hk.elim .inr fun h=>.inl (by omega)).mod _ (.inl (by omega));have f2:∀ k,fp s'.2 k→fp s0 k∨H.nx≤k:=fun k hk=>by
  rcases T8 k (.inl hk) with (h|h)|h
  ·exact .inl h
  ·exact .inr (by omega)
  exact .inr (by have:H.nx+2≤k:=h;omega)
 rcases hjf with ⟨j1,j2,j3,j4⟩|⟨j0,j1,j2,j3,j4⟩
 ·exact ⟨.normal,j2,fun o=>hn _ _ (hJ j1 (Sm.mod _ _)) j4 (by rw[aI (by omega)];exact j3) (f1 o) f2⟩
 exact ⟨s'.1,j2,fun o=>hx _ _ _ j0 (hF j1 (Sm.mod _ _)) j4 (by rw[aI (by omega)];exact j3) (f1 o) f2⟩
section
variable {st:Bool} {E:Env} {A:ab} {H:Hp} {next:ab→Hp→Prop} {d:Option Tmp} {ty:TypeId} {pos:String} {af:Array Edge} {gd:Option (Nat×Bool)}
def lkN (next:ab→Hp→Prop) (A:ab) (d:Option Tmp) (P:Program) (H:Hp) (o:Option (TypeId×TypeId)) (m k:AV) (ok:Bool):Prop:=gk o fun p=>gk (ax P p.2) fun z=>vN next A d (bw P H p.1 (ofValue z) m k ok)
theorem Iu {P:Program} {kt et:TypeId} {m k:AV} {ok:Bool}:lkN next A d P H (some (kt,et)) m k ok=gk (ax P et) fun z=>vN next A d (bw P H kt (ofValue z) m k ok):=rfl
def upN (next:ab→Hp→Prop) (A:ab) (d:Option Tmp) (P:Program) (H:Hp) (o:Option (TypeId×TypeId)) (m k x:AV):Prop:=gk o fun p=>vN next A d (aV P H p.1 m k x)
theorem Dw {P:Program} {kt et:TypeId} {m k x:AV}:upN next A d P H (some (kt,et)) m k x=vN next A d (aV P H kt m k x):=rfl
theorem Ar {t:TypeId} {m k:Operand} {ok:Bool}:SK st E ⟨d,.lookup t m k ok,ty,pos,af,gd⟩ A H next=(ltV (ev A.tm m) H.nx∧lkN next A d E.P H (ir E.P t) (ev A.tm m) (ev A.tm k) ok):=by
 show (_∧cW _ ((ndF (ir E.P t) _ _).run A.tm H))=_;rw[cD];unfold lkN;cases ir E.P t with
 | none=>rfl
 | some p=>
  show (_∧cW _ ((ndF (ax E.P p.2) _ _).run A.tm H))=_;rw[cD];rfl
theorem rf {t:TypeId} {m k x:Operand}:SK st E ⟨d,.mapUpdate t m k x,ty,pos,af,gd⟩ A H next=(ltV (ev A.tm m) H.nx∧upN next A d E.P H (ir E.P t) (ev A.tm m) (ev A.tm k) (ev A.tm x)):=by
 show (_∧cW _ ((ndF (ir E.P t) _ _).run A.tm H))=_;rw[cD];rfl
theorem Sx {id n:Nat}:ltV (.one (.o (.mp id))) n=(id<n):=propext ⟨fun h=>h id (List.mem_singleton.2 rfl),fun h i hi=>by rw[List.mem_singleton.1 hi];exact h⟩
end
def jN:Nat→List (List UInt8×AC)→List bJ
 | _,[]=>[]
 | n,(s,v)::l=>⟨.one (.o (.str s)),.one v,n⟩::jN (n+1) l
def ic (l:List (List UInt8×AC)):aN:=.oth (.map (jN 0 l) l.length)
def atK (l:List (List UInt8×AC)) (s:List UInt8):Option AC:=
 match l with
 | []=>none
 | (t,v)::l=>if t=s then some v else atK l s
theorem Gz:∀ (n:Nat) (l:List (List UInt8×AC)),(jN n l).length=l.length
 | _,[]=>rfl
 | n,(s,v)::l=>congrArg (·+1) (Gz (n+1) l)
theorem FZ:∀ (n:Nat) (l:List (List UInt8×AC)) (s:List UInt8) (v:AC),jN n (l++[(s,v)])=jN n l++[⟨.one (.o (.str s)),.one v,n+l.length⟩]
 | n,[],s,v=>rfl
 | n,(t,w)::l,s,v=>by
  show _::jN (n+1) (l++[(s,v)])=_::(jN (n+1) l++_);rw[FZ (n+1) l s v];have:n+1+l.length=n+(l.length+1):=by omega
  rw[this];rfl
theorem sH {P:Program} {kt:TypeId} (h:bC P kt=0) (s t:List UInt8):jJ P kt (.one (.o (.str s))) (.one (.o (.str t)))=some (s==t):=by
 unfold jJ;rw[h,←bO];rfl
theorem xt {P:Program} {kt:TypeId} (h:bC P kt=0) (s:List UInt8):∀ (n:Nat) (l:List (List UInt8×AC)),∃ e,jv P kt (.one (.o (.str s))) (jN n l)=some e∧e.map bJ.val=(atK l s).map AV.one
 | _,[]=>⟨none,rfl,rfl⟩
 | n,(t,v)::l=>by
  obtain ⟨e,h1,h2⟩:=xt h s (n+1) l;have e0:jv P kt (.one (.o (.str s))) (jN n ((t,v)::l))=az (jJ P kt (.one (.o (.str s))) (.one (.o (.str t)))) none fun b=>ifE b (some (some ⟨.one (.o (.str t)),.one v,n⟩)) (jv P kt (.one (.o (.str s))) (jN (n+1) l)):=rfl;rw[e0,sH h];by_cases D3:s=t
  ·subst D3;refine ⟨some ⟨.one (.o (.str s)),.one v,n⟩,?_,?_⟩
   ·show ifE (s==s) _ _=_;rw[beq_self_eq_true];rfl
   show _=(if s=s then some v else atK l s).map AV.one;rw[zB0 rfl];rfl
  refine ⟨e,?_,?_⟩
  ·show ifE (s==t) _ _=_;rw[zB5 D3];exact h1
  show _=(if t=s then some v else atK l s).map AV.one;rw[zB1 (fun h=>D3 h.symm)];exact h2
theorem sv {P:Program} {b:Bool} {kt:TypeId} (h:bC P kt=0) (s:List UInt8):iu P b kt (.one (.o (.str s)))=some ():=by
 unfold iu;rw[h];rfl
theorem vu {P:Program} {H:Hp} {kt:TypeId} {z:AV} {id:Nat} {s:List UInt8} {l:List (List UInt8×AC)} {ok:Bool} (h:bC P kt=0) (hg:H.get id=some (ic l)):
  bw P H kt z (.one (.o (.mp id))) (.one (.o (.str s))) ok=(match atK l s with|some v=>bG H ok (.one v) true|none=>bG H ok z false):=by
 obtain ⟨e,h1,h2⟩:=xt h s 0 l;unfold bw;have J2:H.get id=some (.oth (.map (jN 0 l) l.length)):=hg;simp only[J2,sv h];show (match jv P kt (.one (.o (.str s))) (jN 0 l) with|some (some e)=>bG H ok e.val true|some none=>bG H ok z false|none=>.bad "lookup - keys")=_
 rw[h1];cases e with
 | none=>
  cases ha:atK l s with
  | none=>rfl
  | some v=>rw[ha] at h2;cases h2
 | some e=>
  cases ha:atK l s with
  | none=>rw[ha] at h2;cases h2
  | some v=>
   rw[ha] at h2;have:e.val=.one v:=Option.some.inj h2;show bG H ok e.val true=bG H ok (.one v) true;rw[this]
theorem ze {H:Hp} {v:AV} {b:Bool}:bG H false v b=.val v H:=rfl
theorem zn {H:Hp} {c:AC} {b:Bool}:bG H true (.one c) b=.val (.tup [(false,[c]),(false,[.b b])]) H:=rfl
theorem yU {P:Program} {kt:TypeId} (h:bC P kt=0) (s:List UInt8) (x:AV):∀ (n:Nat) (l:List (List UInt8×AC)),atK l s=none→mI P kt (.one (.o (.str s))) x (jN n l)=some (false,jN n l)
 | _,[],_=>rfl
 | n,(t,v)::l,ha=>by
  have hts:¬t=s:=fun e=>by
   unfold atK at ha;rw[zB0 e] at ha;cases ha
  have ha2:atK l s=none:=by
   unfold atK at ha;rwa [zB1 hts] at ha
  have ih:=yU h s x (n+1) l ha2;have e0:mI P kt (.one (.o (.str s))) x (jN n ((t,v)::l))=az (jJ P kt (.one (.o (.str s))) (.one (.o (.str t)))) none fun b=>ifE b (ifE (sameKey P kt (.one (.o (.str t))) (.one (.o (.str s)))) (some (true,⟨.one (.o (.str s)),x,n⟩::jN (n+1) l)) none) (az (mI P kt (.one (.o (.str s))) x (jN (n+1) l)) none fun r=>some (r.1,⟨.one (.o (.str t)),.one v,n⟩::r.2)):=rfl;rw[e0,sH h];show ifE (s==t) _ _=_;rw[zB5 (fun h=>hts h.symm),ih];rfl
theorem wk {P:Program} {H:Hp} {kt:TypeId} {id:Nat} {s:List UInt8} {l:List (List UInt8×AC)} {x:AC} (h:bC P kt=0) (hg:H.get id=some (ic l)) (hn:atK l s=none):
  aV P H kt (.one (.o (.mp id))) (.one (.o (.str s))) (.one x)=.val aH (H.mod id (ic (l++[(s,x)]))):=by
 unfold aV;have J2:H.get id=some (.oth (.map (jN 0 l) l.length)):=hg;simp only[J2,sv h];show nd (mI P kt (.one (.o (.str s))) (.one x) (jN 0 l)) _ _=_;rw[yU h s (.one x) 0 l hn];show ae.val aH (H.mod id (.oth (.map (jN 0 l++[⟨.one (.o (.str s)),.one x,l.length⟩]) (l.length+1))))=_;unfold ic;rw[FZ,List.length_append,Nat.zero_add];rfl
theorem Rw {H:Hp} {id:Nat} {l:List (List UInt8×AC)} (hg:H.get id=some (ic l)):cQ H 2 (.one (.o (.mp id)))=.val (.one (.i .i64 (l.length:Int))) H:=by
 have e:cQ H 2 (.one (.o (.mp id)))=eD H (.one (.o (.mp id))):=rfl;rw[e];unfold eD;have J2:H.get id=some (.oth (.map (jN 0 l) l.length)):=hg;simp only[J2];rw[Gz];rfl
theorem sW {k:IntKind} {n:Int}:ofValue (.int k n)=.one (.i k n):=rfl
theorem qv {b:Bool}:ofValue (.bool b)=.one (.b b):=rfl
def Al {α β:Type} (R:β→α→Prop):List β→List α→Prop
 | [],[]=>True
 | c::cs,x::xs=>R c x∧Al R cs xs
 | _,_=>False
theorem Al.len {α β:Type} {R:β→α→Prop}:∀ {cs:List β} {xs:List α},Al R cs xs→cs.length=xs.length
 | [],[],_=>rfl
 | _::_,_::_,h=>congrArg (·+1) (Al.len h.2)
 | [],_::_,h=>h.elim
 | _::_,[],h=>h.elim
theorem Al.mono {α β:Type} {R R':β→α→Prop} (hr:∀ c x,R c x→R' c x):∀ {cs:List β} {xs:List α},Al R cs xs→Al R' cs xs
 | [],[],_=>trivial
 | _::_,_::_,h=>⟨hr _ _ h.1,Al.mono hr h.2⟩
 | [],_::_,h=>h.elim
 | _::_,[],h=>h.elim
theorem Al.at {α β:Type} {R:β→α→Prop}:∀ {cs:List β} {xs:List α} {i:Nat} {x:α},Al R cs xs→xs[i]?=some x→∃ c,cs[i]?=some c∧R c x
 | [],[],_,_,_,h=>by simp at h
 | c::cs,y::xs,0,x,h,hx=>by
  simp only[List.getElem?_cons_zero,Option.some.injEq] at hx;subst hx;exact ⟨c,rfl,h.1⟩
 | c::cs,y::xs,i+1,x,h,hx=>by
  rw[List.getElem?_cons_succ] at hx ⊢;exact Al.at h.2 hx
 | [],_::_,_,_,h,_=>h.elim
 | _::_,[],_,_,h,_=>h.elim
theorem Al.app {α β:Type} {R:β→α→Prop}:∀ {cs:List β} {xs:List α} {c:β} {x:α},Al R cs xs→R c x→Al R (cs++[c]) (xs++[x])
 | [],[],_,_,_,h=>⟨h,trivial⟩
 | _::_,_::_,_,_,h,k=>⟨h.1,Al.app h.2 k⟩
 | [],_::_,_,_,h,_=>h.elim
 | _::_,[],_,_,h,_=>h.elim
def SlR {α:Type} (R:Hp→List AC→α→Prop) (sz:Nat) (H:Hp) (v:AC) (l:List α):Prop:=
 ∃ css:List (List AC),SlC H v sz l.length (css.flatMap id)∧Al (fun c x=>c.length=sz∧R H c x) css l
theorem SlR.dY {α:Type} {R:Hp→List AC→α→Prop} {sz:Nat} {H H':Hp} {v:AC} {l:List α} (h:SlR R sz H v l) (hn:H.nx≤H'.nx) (hg:∀ i,i<H.nx→H'.get i=H.get i) (hr:∀ c x,R H c x→R H' c x):SlR R sz H' v l:=by
 obtain ⟨css,h1,h2⟩:=h;exact ⟨css,h1.dY hn hg,h2.mono fun c x h=>⟨h.1,hr c x h.2⟩⟩
theorem SlR.len {α:Type} {R:Hp→List AC→α→Prop} {sz:Nat} {H:Hp} {v:AC} {l:List α} (h:SlR R sz H v l):cQ H 1 (.one v)=.val (.one (.i .i64 (l.length:Int))) H:=let ⟨_,h1,_⟩:=h;h1.len
theorem SlR.lt {α:Type} {R:Hp→List AC→α→Prop} {sz:Nat} {H:Hp} {v:AC} {l:List α} (h:SlR R sz H v l):ltV (.one v) H.nx:=let ⟨_,h1,_⟩:=h;kY h1
theorem sf {sz:Nat}:∀ {css:List (List AC)},(∀ c∈css,c.length=sz)→(css.flatMap id).length=css.length*sz
 | [],_=>by simp
 | c::css,h=>by
  rw[List.flatMap_cons,List.length_append,sf fun x hx=>h x (List.mem_cons_of_mem _ hx),List.length_cons,Nat.succ_mul];have:(id c:List AC).length=sz:=h c (List.mem_cons_self ..);omega
theorem vG {sz:Nat}:∀ {css:List (List AC)} {i:Nat} {c:List AC},(∀ c∈css,c.length=sz)→css[i]?=some c→((css.flatMap id).drop (i*sz)).take sz=c
 | [],_,_,_,h=>by simp at h
 | d::css,0,c,hl,h=>by
  simp only[List.getElem?_cons_zero,Option.some.injEq] at h;subst h;have:d.length=sz:=hl d (List.mem_cons_self ..);rw[Nat.zero_mul,List.drop_zero,List.flatMap_cons];show (d++_).take sz=d;rw[List.take_append_of_le_length (by omega),List.take_of_length_le (by omega)]
 | d::css,i+1,c,hl,h=>by
  rw[List.getElem?_cons_succ] at h;have hd:d.length=sz:=hl d (List.mem_cons_self ..);rw[List.flatMap_cons,Nat.succ_mul];show ((d++css.flatMap id).drop (i*sz+sz)).take sz=c;rw[List.drop_append,hd,List.drop_of_length_le (by omega),List.nil_append];have:i*sz+sz - sz=i*sz:=by omega
  rw[this];exact vG (fun x hx=>hl x (List.mem_cons_of_mem _ hx)) h
theorem Al.lens {α:Type} {R:List AC→α→Prop} {sz:Nat}:∀ {css:List (List AC)} {xs:List α},Al (fun c x=>c.length=sz∧R c x) css xs→∀ c∈css,c.length=sz
 | [],[],_,_,h=>by cases h
 | _::_,_::_,h,c,hc=>by
  rcases List.mem_cons.1 hc with rfl|hc
  ·exact h.1.1
  exact Al.lens h.2 c hc
 | [],_::_,h,_,_=>h.elim
 | _::_,[],h,_,_=>h.elim
theorem SlR.open {α:Type} {R:Hp→List AC→α→Prop} {sz:Nat} {H:Hp} {v:AC} {l:List α} (h:SlR R sz H v l) (hn:0<l.length):∃ id g off cells,v=.o (.sl id g off l.length sz)∧id<H.nx∧rowOf (H.get id) g=some cells ∧
  ∀ (i:Nat) (x:α),l[i]?=some x→off+i*sz+sz≤cells.length∧∃ c,(cells.drop (off+i*sz)).take sz=c∧c.length=sz∧R H c x:=by
 obtain ⟨css,h1,h2⟩:=h;obtain ⟨id,g,off,e1,hid,hr⟩:=SlC.pos h1 hn;have E3:=hr;obtain ⟨cells,h3,h6,h7⟩:=hr;refine ⟨id,g,off,cells,e1,hid,h3,fun i x hx=>?_⟩;obtain ⟨c,hc,W0,hR⟩:=h2.at hx;have D0:i<l.length:=by
  rcases Nat.lt_or_ge i l.length with h|h
  ·exact h
  rw[List.getElem?_eq_none h] at hx;cases hx
 have hmul:(i+1)*sz≤l.length*sz:=Nat.mul_le_mul_right _ D0;rw[Nat.succ_mul] at hmul;obtain ⟨cells',k3,k6,k7⟩:=E3.part (i*sz) sz hmul;rw[h3] at k3;cases k3
 refine ⟨k6,c,?_,W0,hR⟩;rw[k7];exact vG h2.lens hc
def fiO (o:Option (List AC)) (H:Hp):ae:=match o with|some c=>.val (.agg c) H|none=>.bad "build - fill"
theorem HU {c:List AC} {H:Hp}:fiO (some c) H=.val (.agg c) H:=rfl
def buO (o:Option (List (Nat×Nat×OpF))) (z:List AC) (tm:PT AV) (H:Hp):ae:=match o with|some q=>fiO (fj tm q z) H|none=>.bad "build - parts"
theorem Hb {q:List (Nat×Nat×OpF)} {z:List AC} {tm:PT AV} {H:Hp}:buO (some q) z tm H=fiO (fj tm q z) H:=rfl
theorem MR {P:Program} {tm:PT AV} {H:Hp} {d:Option Tmp} {t:TypeId} {ps:Array (Nat×Operand)} {ty:TypeId} {pos:String} {af:Array Edge} {g:Option (Nat×Bool)} {z:List AC} {pl:Nat→Option (Nat×Nat)}
  (hz:(ax P t).map (fun z=>(ofValue z).cells)=some z) (hp:cH P t=some pl):(au P ⟨d,.build t ps,ty,pos,af,g⟩).run tm H=buO (cT pl ps.toList) z tm H:=by
 cases D4:ax P t with
 | none=>rw[D4] at hz;cases hz
 | some zv=>
  rw[D4] at hz;have hz2:(ofValue zv).cells=z:=Option.some.inj hz;show (ndF (ax P t) "build - zero" fun z=>ndF (cH P t) "build - type" fun pl=>ndF (cT pl ps.toList) "build - parts" fun ps=>.mk fun tm h=>nw h (ofValue z).cells tm ps).run tm H=_
  rw[D4,hp];show (ndF (cT pl ps.toList) "build - parts" fun ps=>.mk fun tm h=>nw h (ofValue zv).cells tm ps).run tm H=_
  rw[hz2];cases cT pl ps.toList with
  | none=>rfl
  | some q=>
   show nd (fj tm q z) "build - fill" (fun c=>.val (.agg c) H)=fiO (fj tm q z) H
   cases fj tm q z <;> rfl
theorem nY {h:Hp} {sz:Nat}:ff h sz (.one (.o .nilS))=some (0,[]):=rfl
theorem eQ {P:Program} {h:Hp} {t e:TypeId} {sz by_ n:Nat} {z:Value} {x:AV} {c:List AC} (he:ba P t=some (e,sz)) (hb:bW P e=some by_) (hz:ax P e=some z) (X0:(ofValue z).cells.length=sz) (J1:sz≠0)
  (hs:ff h sz x=some (n,c)) (h1:n≤140737488355328) (h2:n*by_≤140737488355328):aL P h t (.one (.o .nilS)) x=if n=0 then .val (.one (.o .nilS)) h else .val (.one (.o (.sl h.nx 0 0 n sz))) (h.new (.arr c e 0 0)):=by
 have e1:Nat.beq sz 0=false:=by
  cases h:Nat.beq sz 0 with
  | false=>rfl
  | true=>exact absurd (zA3 h) J1
 have e3:both (!Nat.beq sz 0) (Nat.beq (bh (ofValue z).cells) sz)=true:=by rw[e1,aX,X0,Nat.beq_refl];rfl
 have e4:both (Nat.ble n 140737488355328) (Nat.ble (Nat.mul n by_) 140737488355328)=true:=by
  rw[zA5 h1];exact zA5 h2
 unfold aL;simp only[he,hb,hz,nd,e3,aF,hs];show Eng.ifE (Nat.beq n 0) (.val (.one (.o .nilS)) h) (aF (both (Nat.ble n 140737488355328) (Nat.ble (Nat.mul n by_) 140737488355328)) "append - too much" (.val (.one (.o (.sl h.nx 0 0 n sz))) (h.new (.arr c e 0 0))))=_
 rw[e4];by_cases hn:n=0
 ·subst hn;rfl
 have:Nat.beq n 0=false:=by
  cases h:Nat.beq n 0 with
  | false=>rfl
  | true=>exact absurd (zA3 h) hn
 rw[this,zB1 hn];rfl
theorem BN {P:Program} {j m:Nat} {did:List DSy} {A:ab} {d:Option Tmp} {H:Hp} {next:List DSy→ab→Hp→Prop} {t e:TypeId} {sz by_ n:Nat} {z:Value} {v:AC} {cells:List AC} (he:ba P t=some (e,sz)) (hb:bW P e=some by_) (hz:ax P e=some z) (X0:(ofValue z).cells.length=sz) (J1:sz≠0)
  (hv:SlC H v sz n cells) (h2:n≤140737488355328∧n*by_≤140737488355328) (hu:∀ id∈(AV.one v).ids,cP id (bB m did))
  (hn:∀ v' c1 H',SlC H' v' sz n cells→(∀ id∈(AV.one v').ids,H.nx≤id)→Gr H H'→c1=H'.nx→next (⟨j,none,H.nx,c1,[]⟩::did) (bx A d (.one v')) H'):
  AP j m did A d H next ((AV.one (.o .nilS)).ids++(AV.one v).ids) fun h=>aL P h t (.one (.o .nilS)) (.one v):=by
 have D0:=kY hv;refine ⟨fun id h=>?_,?_⟩
 ·have h':id∈(AV.one v).ids:=h;exact ⟨D0 id h',hu id h'⟩
 rcases hv with ⟨hc,⟨rfl,rfl⟩|⟨id,g,off,rfl,hid,hr⟩⟩
 ·rw[Nat.zero_mul] at hc;have hc:=List.eq_nil_of_length_eq_zero hc;subst hc;refine .inr ⟨.one (.o .nilS),fun h _ _=>(eQ he hb hz X0 J1 nY (by omega) (by omega)).trans (zB0 rfl),hn _ _ _ ⟨by simp,.inl ⟨rfl,rfl⟩⟩ (fun _ h=>by cases h) (Fr.refl _) rfl⟩
 obtain ⟨row,hg,hle,L9⟩:=hr;have src:∀ h:Hp,(∀ k∈(AV.one (.o .nilS)).ids++(AV.one (.o (.sl id g off n sz))).ids,h.get k=H.get k)→ff h sz (.one (.o (.sl id g off n sz)))=some (n,cells):=fun h hh=>by
  have:h.get id=H.get id:=hh id (List.mem_append_right _ (List.mem_singleton.2 rfl));rw[fK (cells:=row) (by rw[this];exact hg) hle,L9]
 rcases Nat.eq_zero_or_pos n with h0|h0
 ·refine .inr ⟨.one (.o .nilS),fun h _ hh=>(eQ he hb hz X0 J1 (src h hh) h2.1 h2.2).trans (zB0 h0),hn _ _ _ ⟨hc,.inl ⟨rfl,h0⟩⟩ (fun _ h=>by cases h) (Fr.refl _) rfl⟩
 refine .inl ⟨.one (.o (.sl H.nx 0 0 n sz)),.arr cells e 0 0,fun h L1 hh=>((eQ he hb hz X0 J1 (src h hh) h2.1 h2.2).trans (zB1 (by omega))).trans (by rw[L1]),hn _ _ _ ⟨hc,.inr ⟨H.nx,0,0,rfl,zA6 _,?_⟩⟩ (fun k h=>by rw[List.mem_singleton.1 h];exact zA1 _) ((Fr.refl _).new _) rfl⟩;refine ⟨cells,by rw[aB rfl];rfl,by omega,?_⟩;rw[List.drop_zero,List.take_of_length_le (by omega)]
theorem gZ {P:Program} {H:Hp} {t e:TypeId} {sz by_ n:Nat} {z:Value} {v:AC} {cells:List AC} {r:Option Nat} (he:ba P t=some (e,sz)) (hb:bW P e=some by_) (hz:ax P e=some z) (X0:(ofValue z).cells.length=sz) (J1:sz≠0)
  (ho:dm H v e sz n cells r) (c0:List AC) (X5:c0.length=sz) (hL:n+1≤140737488355328∧(n+1)*by_≤140737488355328):
  ltV (.one v) (H.new (.arr c0 e 0 0)).nx∧∃ v' H' r',aL P (H.new (.arr c0 e 0 0)) t (.one v) (.one (.o (.sl H.nx 0 0 1 sz)))=.val (.one v') H' ∧
   dm H' v' e sz (n+1) (cells++c0) (some r')∧Fr (fun i=>r=some i) H H'∧(r=some r'∨H.nx≤r'):=by
 have hown3:=ho.fr ((Fr.refl _:Gr _ _).new (.arr c0 e 0 0)) fun _ _ h=>h;obtain ⟨v5,H5,r5,U1,how5,hf5,hr5⟩:=oW (P:=P) (t:=t) (H:=H.new (.arr c0 e 0 0)) (x:=.one (.o (.sl H.nx 0 0 1 sz))) (k:=1) (c:=c0) he hb hz X0 J1 hown3
  (by rw[fK (cells:=c0) (by rw[aB rfl];rfl) (by omega)];simp only[List.drop_zero,Nat.one_mul];rw[List.take_of_length_le (by omega)]) (by decide) (by rw[X5,Nat.one_mul]) hL.1 hL.2
 refine ⟨hown3.lt,v5,H5,r5,U1,how5,?_,?_⟩
 ·exact ((Fr.refl _:Gr _ _).new (.arr c0 e 0 0)).none.then hf5 fun q hq=>.inr hq
 rcases hr5 with h|⟨_,h⟩
 ·exact .inl h
 right;rw[h,td];omega
theorem rH {tm:PT AV}:ev tm (.const (.pointer none))=.one (.o .nilP):=rfl
theorem Lg {tm:PT AV}:ev tm (.const (.map none))=.one (.o .nilM):=rfl
theorem LA {tm:PT AV}:ev tm (.const .nilFunc)=.one (.o .nilF):=rfl
theorem qi {H:Hp} {id g off lim:Nat}:gJ H (.one (.o (.ptr id g off lim)))=.val (.one (.o (.ptr id g off lim))) H:=rfl
theorem mJ {H:Hp} {id g off lim:Nat} {alt:ae} {f:BF}:bt H 0 .eql f (.one (.o (.ptr id g off lim))) (.one (.o .nilP)) alt=.val (.one (.b false)) H:=rfl
theorem Jt {H:Hp} {id:Nat} {alt:ae} {f:BF}:bt H 2 .eql f (.one (.o (.mp id))) (.one (.o .nilM)) alt=.val (.one (.b false)) H:=rfl
theorem HM {H:Hp} {alt:ae} {f:BF}:bt H 0 .eql f (.one (.o .nilP)) (.one (.o .nilP)) alt=alt:=rfl
theorem QP {H:Hp} {alt:ae} {f:BF}:bt H 2 .eql f (.one (.o .nilM)) (.one (.o .nilM)) alt=alt:=rfl
def RR (r:Bool) (H:Hp) (alt:ae) (x y:AV):ae:=
 match x,y with
 | .one (.o .nilP),.one (.o .nilP)=>.val (.one (.b r)) H
 | _,_=>alt
theorem Me {r:Bool} {H:Hp} {alt:ae}:RR r H alt (.one (.o .nilP)) (.one (.o .nilP))=.val (.one (.b r)) H:=rfl
theorem vO {P:Program} {tm:PT AV} {H:Hp} {d:Option Tmp} {t c:TypeId} {e:TypeId} {x y:Operand} {ty:TypeId} {pos:String} {af:Array Edge} {g:Option (Nat×Bool)} (h:P.underlying t=some (.pointer e)):
  aq P tm H ⟨d,.binOp .eql t x y c,ty,pos,af,g⟩=RR true H (bH P tm H ⟨d,.binOp .eql t x y c,ty,pos,af,g⟩) (ev tm x) (ev tm y):=by
 unfold RR;split
 ·rename_i hx hy
  have vx:(ev tm x).val?=some (.pointer none):=by rw[hx];rfl
  have vy:(ev tm y).val?=some (.pointer none):=by rw[hy];rfl
  have dx:aZ (ev tm x)=.pointer none:=by unfold aZ;rw[vx]
  have dy:aZ (ev tm y)=.pointer none:=by unfold aZ;rw[vy]
  unfold aq;have e1:((⟨d,.binOp .eql t x y c,ty,pos,af,g⟩:Oper).op.operands.toList.all fun x=>(ev tm x).val?.isSome)=true:=by
   show ([x,y].all fun x=>(ev tm x).val?.isSome)=true;simp only[List.all_cons,List.all_nil,vx,vy];rfl
  rw[e1];have e2:ay P (execOp (fun x=>aZ (ev tm x)) ⟨d,.binOp .eql t x y c,ty,pos,af,g⟩)=some (.value (.bool true)):=by
   show ay P (Sem.bind (Sem.bind (eqGuard .eql t x y (aZ (ev tm x)) (aZ (ev tm y))) fun _=>binOp .eql t (aZ (ev tm x)) (aZ (ev tm y))) fun v=>Sem.pure (Next.value v))=_;rw[dx,dy,aP,aP];have hg:eqGuard .eql t x y (.pointer none) (.pointer none)=pure ():=rfl;rw[hg];show ((ay P (Sem.bind (Op.equalIn 10000 t (.pointer none) (.pointer none)) fun r=>Sem.pure (Value.bool r)))).bind _=_;have he:ay P (Op.equalIn 10000 t (.pointer none) (.pointer none))=some true:=by
    unfold Op.equalIn;rw[bc,bS h];rfl
   rw[aP,he];rfl
  rw[e2];rfl
 rfl
def RQ (r:Bool) (H:Hp) (alt:ae) (x y:AV):ae:=
 match x,y with
 | .one (.o .nilM),.one (.o .nilM)=>.val (.one (.b r)) H
 | _,_=>alt
theorem UG {r:Bool} {H:Hp} {alt:ae}:RQ r H alt (.one (.o .nilM)) (.one (.o .nilM))=.val (.one (.b r)) H:=rfl
theorem JG {P:Program} {tm:PT AV} {H:Hp} {d:Option Tmp} {t c:TypeId} {kt et:TypeId} {x y:Operand} {ty:TypeId} {pos:String} {af:Array Edge} {g:Option (Nat×Bool)} (h:P.underlying t=some (.map kt et)):
  aq P tm H ⟨d,.binOp .eql t x y c,ty,pos,af,g⟩=RQ true H (bH P tm H ⟨d,.binOp .eql t x y c,ty,pos,af,g⟩) (ev tm x) (ev tm y):=by
 unfold RQ;split
 ·rename_i hx hy
  have vx:(ev tm x).val?=some (.map none):=by rw[hx];rfl
  have vy:(ev tm y).val?=some (.map none):=by rw[hy];rfl
  have dx:aZ (ev tm x)=.map none:=by unfold aZ;rw[vx]
  have dy:aZ (ev tm y)=.map none:=by unfold aZ;rw[vy]
  unfold aq;have e1:((⟨d,.binOp .eql t x y c,ty,pos,af,g⟩:Oper).op.operands.toList.all fun x=>(ev tm x).val?.isSome)=true:=by
   show ([x,y].all fun x=>(ev tm x).val?.isSome)=true;simp only[List.all_cons,List.all_nil,vx,vy];rfl
  rw[e1];have e2:ay P (execOp (fun x=>aZ (ev tm x)) ⟨d,.binOp .eql t x y c,ty,pos,af,g⟩)=some (.value (.bool true)):=by
   show ay P (Sem.bind (Sem.bind (eqGuard .eql t x y (aZ (ev tm x)) (aZ (ev tm y))) fun _=>binOp .eql t (aZ (ev tm x)) (aZ (ev tm y))) fun v=>Sem.pure (Next.value v))=_;rw[dx,dy,aP,aP];have hg:eqGuard .eql t x y (.map none) (.map none)=pure ():=rfl;rw[hg];show ((ay P (Sem.bind (Op.equalIn 10000 t (.map none) (.map none)) fun r=>Sem.pure (Value.bool r)))).bind _=_;have he:ay P (Op.equalIn 10000 t (.map none) (.map none))=some true:=by
    unfold Op.equalIn;rw[bc,bS h];rfl
   rw[aP,he];rfl
  rw[e2];rfl
 rfl
open Go Go.ChangeShapes Go.WideShapes
def fA (W:World) (xs:List (Option jr)):Prop:=∀ (i:Nat) (x:jr),(xs[i]?).join=some x→pC (jo xs) W x.cells x.p
def ni (W:World):Prop:=∃ (b:Nat) (c:Array Value) (e:TypeId) (f:Nat×Nat),W.heap[b]?=some (.cells c e f)
theorem mw (xs ys:List (Option jr)):Sub (jo xs) (jo (xs++ys)):=by
 intro i g p h;unfold jo at h ⊢;split at h
 ·rename_i hg
  rw[zB0 hg];by_cases hi:i<xs.length
  ·rw[List.getElem?_append_left hi];exact h
  rw[List.getElem?_eq_none (by omega)] at h;cases h
 cases h
theorem uu (xs ys:List (Option jr)):Gr (mq xs) (mq (xs++ys)) where
 nx:=by show xs.length≤(xs++ys).length;simp
 get:=fun i hi _=>by
  have W9:i<xs.length:=hi;rw[kG,kG,List.getElem?_append_left W9]
 log:=⟨[],rfl,fun _ h=>by cases h⟩
theorem pC.sub {β β':Pl} {W:World} {cells:List AC} {p:Place} (hs:Sub β β') (h:pC β W cells p):pC β' W cells p:=by
 obtain ⟨c,e,f,h1,h2,h3,h4,h5⟩:=h;refine ⟨c,e,f,h1,h2,h3,h4,fun k x hk hx=>?_⟩;obtain ⟨v,hv,hr⟩:=h5 k x hk hx;exact ⟨v,hv,CR.mono hs hr⟩
theorem yu {W:World} {xs:List (Option jr)} {r:jr} (h:fA W xs) (hr:pC (jo xs) W r.cells r.p):fA W (xs++[some r]):=by
 intro i x hx;by_cases hi:i<xs.length
 ·rw[List.getElem?_append_left hi] at hx;exact pC.sub (mw _ _) (h i x hx)
 rw[List.getElem?_append_right (by omega)] at hx;have:i - xs.length=0:=by
  rcases Nat.eq_zero_or_pos (i - xs.length) with h|h
  ·exact h
  rw[List.getElem?_eq_none (by simp;omega)] at hx;cases hx
 rw[this] at hx;cases hx
 exact pC.sub (mw _ _) hr
theorem Ba (xs:List (Option jr)) (r:jr):jo (xs++[some r]) xs.length 0=some r.p:=by
 unfold jo;rw[zB0 rfl,List.getElem?_append_right (zA1 _),Nat.sub_self];rfl
theorem zO (xs:List (Option jr)) (r:jr):(mq (xs++[some r])).get xs.length=some (.ro r.cells):=by
 rw[kG,List.getElem?_append_right (zA1 _),Nat.sub_self];rfl
theorem TN {W:World}:fA W []:=fun i x h=>by simp at h
section
variable {P:Program} {W:World} {α β:Type}
def Opn (P:Program) (W:World) (sz:Nat) (R:Nat→Hp→List AC→α→Prop) (t:TypeId):Prop:=
 ∀ (H:Type) (enc:TypeId×Value→H) (fuel:Nat) (cs:List Value) (d:DataW H) (p:List MemPlace) (B:Nat),
  DataW.trod enc P W 0 (fun _=>true) true fuel t cs=some (d,p)→(∀ n∈d.weights P t,n≤B) →
  ∀ xs,fA W xs→∃ ys c x,fA W (xs++ys)∧CRs (jo (xs++ys)) c cs∧c.length=sz∧R B (mq (xs++ys)) c x
def wS (B:Nat) (_:Hp) (c:List AC) (s:List UInt8):Prop:=c=[.o (.str s)]∧s.length≤B
def Dl (k:IntKind) (_:Nat) (_:Hp) (c:List AC) (z:Int):Prop:=c=[.i k z]∧(Lit.int k z).wf=true
def Qu (_:Nat) (_:Hp) (c:List AC) (z:Bool):Prop:=c=[.b z]
theorem gN {t:TypeId} (ht:P.underlying t=some .string):Opn P W 1 wS t:=by
 intro H enc fuel cs d p B h hw xs hx;obtain ⟨s,rfl,e,_⟩:=DataW.trod_string ht h;cases e
 refine ⟨[],[.o (.str s.data.toList)],s.data.toList,by rwa [List.append_nil],⟨?_,trivial⟩,rfl,rfl,hw _ (by simp[DataW.weights])⟩;show Value.string s=.string ⟨s.data.toList.toArray⟩;simp
theorem lE {t:TypeId} {k:IntKind} (ht:P.underlying t=some (.int k)):Opn P W 1 (Dl k) t:=by
 intro H enc fuel cs d p B h hw xs hx;obtain ⟨n,rfl,e,Q8⟩:=DataW.trod_int ht h;exact ⟨[],[.i k n],n,by rwa [List.append_nil],⟨rfl,trivial⟩,rfl,rfl,Q8⟩
def Lb {H:Type} (enc:TypeId×Value→H) (P:Program) (W:World) (n:Nat):List TypeId→List Value→List (DataW H×List MemPlace)→Prop
 | [],cs,[]=>cs=[]
 | t::ts,cs,y::ys=>P.cellsOf t≤cs.length∧DataW.trod enc P W 0 (fun _=>true) true n t (cs.take (P.cellsOf t))=some y∧Lb enc P W n ts (cs.drop (P.cellsOf t)) ys
 | _,_,_=>False
def UE (P:Program) (W:World) (sz:Nat) (R:Nat→Hp→List AC→α→Prop) (ts:List TypeId):Prop:=
 ∀ (H:Type) (enc:TypeId×Value→H) (n:Nat) (cs:List Value) (ys:List (DataW H×List MemPlace)) (B:Nat),
  Lb enc P W n ts cs ys→(∀ n∈DataW.weightsEach P ts (ys.map (·.1)),n≤B) →
  ∀ xs,fA W xs→∃ rs c x,fA W (xs++rs)∧CRs (jo (xs++rs)) c cs∧c.length=sz∧R B (mq (xs++rs)) c x
theorem gb {sz:Nat} {R:Nat→Hp→List AC→α→Prop} {t:TypeId} (h:Opn P W sz R t):UE P W sz R [t]:=by
 intro H enc n cs ys B hp hw xs hx;match ys,hp with
 | [y],⟨h1,h2,h3⟩=>
  have h3':cs.drop (P.cellsOf t)=[]:=h3;have e:cs.take (P.cellsOf t)=cs:=by have:=List.take_append_drop (P.cellsOf t) cs;rwa [h3',List.append_nil] at this
  rw[e] at h2;exact h H enc n cs y.1 y.2 B h2 (fun n hn=>hw n (by simp[DataW.weightsEach,hn])) xs hx
def fJ (R:Nat→Hp→List AC→α→Prop) (S:Nat→Hp→List AC→β→Prop) (B:Nat) (H:Hp) (c:List AC) (x:α×β):Prop:=∃ c1 c2,c=c1++c2∧R B H c1 x.1∧S B H c2 x.2
def jP (R:Nat→Hp→List AC→α→Prop):Prop:=∀ B H H' c x,R B H c x→Gr H H'→R B H' c x
theorem ck:jP wS:=fun _ _ _ _ _ h _=>h
theorem eL {k:IntKind}:jP (Dl k):=fun _ _ _ _ _ h _=>h
theorem ct {R:Nat→Hp→List AC→α→Prop} {S:Nat→Hp→List AC→β→Prop} (h:jP R) (k:jP S):jP (fJ R S):=fun _ _ _ _ _ ⟨c1,c2,e,a,b⟩ g=>⟨c1,c2,e,h _ _ _ _ _ a g,k _ _ _ _ _ b g⟩
theorem bZ {sz sz':Nat} {R:Nat→Hp→List AC→α→Prop} {S:Nat→Hp→List AC→β→Prop} {t:TypeId} {ts:List TypeId} (h:Opn P W sz R t) (hR:jP R) (hs:UE P W sz' S ts):UE P W (sz+sz') (fJ R S) (t::ts):=by
 intro H enc n cs ys B hp hw xs hx;match ys,hp with
 | y::ys,⟨h1,h2,h3⟩=>
  obtain ⟨r1,c1,x1,a1,a2,a3,a4⟩:=h H enc n _ y.1 y.2 B h2 (fun n hn=>hw n (by simp[DataW.weightsEach,hn])) xs hx;obtain ⟨r2,c2,x2,b1,b2,b3,b4⟩:=hs H enc n _ ys B h3 (fun n hn=>hw n (by simp only[List.map_cons,DataW.weightsEach,List.mem_append];exact .inr hn)) (xs++r1) a1;rw[List.append_assoc] at b1 b2 b4;refine ⟨r1++r2,c1++c2,(x1,x2),b1,?_,by rw[List.length_append,a3,b3],c1,c2,rfl,?_,b4⟩
  ·have:=CRs.append (CRs.mono (by rw[←List.append_assoc];exact mw _ _) a2) b2;rwa [List.take_append_drop] at this
  exact hR _ _ _ _ _ a4 (by rw[←List.append_assoc];exact uu _ _)
def rW (P:Program) (n:Nat):Nat→List Field→Bool
 | o,[]=>o==n
 | o,f::fs=>(f.offset==o)&&(decide (o+P.cellsOf f.type≤n)&&rW P n (o+P.cellsOf f.type) fs)
theorem uK {H:Type} {enc:TypeId×Value→H} {n:Nat} {cs:List Value}:∀ (fs:List Field) (o:Nat) (ys:List (DataW H×List MemPlace)),rW P cs.length o fs=true→ys.length=fs.length →
  (∀ (i:Nat) (f:Field),fs[i]?=some f→DataW.trod enc P W 0 (fun _=>true) true n f.type ((cs.drop f.offset).take (P.cellsOf f.type))=ys[i]?)→Lb enc P W n (fs.map (·.type)) (cs.drop o) ys
 | [],o,[],ho,_,_=>by
  have:o=cs.length:=by simpa [rW] using ho
  show cs.drop o=[];rw[this,List.drop_length]
 | f::fs,o,y::ys,ho,hl,h=>by
  simp only[rW,Bool.and_eq_true,beq_iff_eq,decide_eq_true_eq] at ho;obtain ⟨h1,h2,h3⟩:=ho;refine ⟨by show P.cellsOf f.type≤_;rw[List.length_drop];omega,?_,?_⟩
  ·have:=h 0 f rfl;rwa [h1] at this
  rw[List.drop_drop];exact uK fs _ ys h3 (by simpa using hl) fun i g hg=>h (i+1) g hg
 | [],_,_::_,_,hl,_=>by simp at hl
 | _::_,_,[],_,hl,_=>by simp at hl
theorem ef {sz:Nat} {R:Nat→Hp→List AC→α→Prop} {t:TypeId} {fs:Array Field} {ts:List TypeId} (ht:P.underlying t=some (.struct fs)) (ho:rW P (P.cellsOf t) 0 fs.toList=true) (hts:fs.toList.map (·.type)=ts) (h:UE P W sz R ts):Opn P W sz R t:=by
 intro H enc fuel cs d p B hd hw xs hx;obtain ⟨ys,n,_,e,hl,hyl,hf⟩:=DataW.trod_struct ht hd;cases e
 rw[←hl] at ho;have hp:=uK (enc:=enc) (W:=W) (n:=n) (cs:=cs) fs.toList 0 ys ho (by rw[hyl];simp) (fun i f hi=>hf i f (by simpa using hi));rw[hts,List.drop_zero] at hp;refine h H enc n cs ys B hp (fun k hk=>hw k ?_) xs hx;simp only[DataW.weights,ht];rwa [hts]
theorem mh {H:Type} {e:TypeId} {d:DataW H} {n:Nat} (hn:n∈d.weights P e):∀ {l:List (DataW H)},d∈l→n∈DataW.weightsAll P e l
 | x::l,h=>by
  rcases List.mem_cons.1 h with rfl|h
  ·simp[DataW.weightsAll,hn]
  simp only[DataW.weightsAll,List.mem_append];exact .inr (mh hn h)
def xO (P:Program) (e:TypeId) (sz:Nat) (R:Nat→Hp→List AC→α→Prop) (B:Nat) (H:Hp) (c:List AC) (l:List α):Prop:=∃ u,c=[u]∧SlR (R B) sz H u l∧l.length*P.bytesOf e≤B
theorem nQ {e:TypeId} {sz:Nat} {R:Nat→Hp→List AC→α→Prop} (h:jP R):jP (xO P e sz R):=fun _ _ _ _ _ ⟨u,hc,a,b⟩ g=>⟨u,hc,a.dY g.nx (fun i hi=>g.get i hi zB2) fun _ _ k=>h _ _ _ _ _ k g,b⟩
theorem Bf {sz:Nat} {R:Nat→Hp→List AC→α→Prop} {e:TypeId} (hR:jP R) (h:Opn P W sz R e) {H:Type} {enc:TypeId×Value→H} {n B:Nat} {a:Addr} {D:Nat→DataW H} {Pl:Nat→List MemPlace}:
  ∀ (m:Nat),(∀ i,i<m→∃ cs',W.cells? 0 (a.add (i*sz)) sz=some cs'∧DataW.trod enc P W 0 (fun _=>true) true n e cs'=some (D i,Pl i))→(∀ i,i<m→∀ k∈(D i).weights P e,k≤B) →
  ∀ xs,fA W xs→∃ ys css l,l.length=m∧fA W (xs++ys)∧Al (fun c x=>c.length=sz∧R B (mq (xs++ys)) c x) css l ∧
   ∀ k,k<m→∃ c cs',css[k]?=some c∧W.cells? 0 (a.add (k*sz)) sz=some cs'∧CRs (jo (xs++ys)) c cs'
 | 0,_,_,xs,hx=>⟨[],[],[],rfl,by rwa [List.append_nil],trivial,fun k hk=>absurd hk (Nat.not_lt_zero k)⟩
 | m+1,hc,hw,xs,hx=>by
  obtain ⟨ys,css,l,hl,K0,v8,hk⟩:=Bf hR h m (fun i hi=>hc i (by omega)) (fun i hi=>hw i (by omega)) xs hx;obtain ⟨cs',h1,h2⟩:=hc m (zA6 m);obtain ⟨zs,c,x,b1,b2,b3,b4⟩:=h H enc n cs' _ _ B h2 (hw m (zA6 m)) (xs++ys) K0;have hlen:css.length=m:=by rw[v8.len,hl]
  rw[List.append_assoc] at b1 b2 b4;have G1:Sub (jo (xs++ys)) (jo (xs++(ys++zs))):=by rw[←List.append_assoc];exact mw _ _
  have P0:Gr (mq (xs++ys)) (mq (xs++(ys++zs))):=by rw[←List.append_assoc];exact uu _ _
  refine ⟨ys++zs,css++[c],l++[x],by simp[hl],b1,Al.app (v8.mono fun c x ⟨u,v⟩=>⟨u,hR _ _ _ _ _ v P0⟩) ⟨b3,b4⟩,fun k U4=>?_⟩;by_cases hkm:k<m
  ·obtain ⟨c1,cs1,e1,e2,e3⟩:=hk k hkm;exact ⟨c1,cs1,by rw[List.getElem?_append_left (by omega)];exact e1,e2,CRs.mono G1 e3⟩
  have:k=m:=by omega
  subst this;exact ⟨c,cs',by rw[List.getElem?_append_right (by omega),hlen,Nat.sub_self];rfl,h1,b2⟩
theorem gM {sz:Nat} {R:Nat→Hp→List AC→α→Prop} {t e:TypeId} (ht:P.underlying t=some (.slice e)) (J1:P.cellsOf e=sz) (Z5:0<sz) (hR:jP R) (hB:ni W) (h:Opn P W sz R e):
  Opn P W 1 (xO P e sz R) t:=by
 intro H enc fuel cs d p B hd hw xs hx;rcases Deep.open_slice ht hd with ⟨rfl,e1⟩|⟨a,len,cap,m,n,D,Pl,rfl,_,hl,hmax,hm,hxx,C3⟩
 ·exact ⟨[],[.o .nilS],[],by rwa [List.append_nil],⟨rfl,trivial⟩,rfl,.o .nilS,rfl,⟨[],⟨by simp,.inl ⟨rfl,rfl⟩⟩,trivial⟩,by simp⟩
 have hm':m=cap:=by rw[hm];rfl
 subst hm';rw[J1] at C3;have hd':=congrArg Prod.fst hxx;simp only at hd'
 subst hd';simp only[DataW.weights,ht] at hw;have hwl:len*P.bytesOf e≤B:=by
  have:=hw _ (List.mem_cons_self ..);simp only[List.length_map,List.length_range] at this;exact zA2 (Nat.mul_le_mul_right _ (by omega)) this
 have hwe:∀ i,i<len→∀ k∈(D i).weights P e,k≤B:=fun i hi k hk=>hw k (List.mem_cons_of_mem _ (List.mem_append_left _ (mh hk (List.mem_map.2 ⟨i,List.mem_range.2 hi,rfl⟩))));obtain ⟨ys,css,l,hll,K0,v8,hk⟩:=Bf hR h len (fun i hi=>C3 i (by omega)) hwe xs hx;have W0:css.length=len:=by rw[v8.len,hll]
 have hlens:∀ c∈css,c.length=sz:=v8.lens;have p8:(css.flatMap id).length=len*sz:=by rw[sf hlens,W0]
 rcases Nat.eq_zero_or_pos m with hm0|hm0
 ·
  subst hm0;have l9:len=0:=by omega
  subst l9;obtain ⟨b0,c0,e0,f0,hb0⟩:=hB;have F4:css=[]:=List.eq_nil_of_length_eq_zero W0;have l9:l=[]:=List.eq_nil_of_length_eq_zero hll;subst F4 l9;have I1:pC (jo (xs++ys)) W [] ⟨b0,0,c0.size,0⟩:=⟨c0,e0,f0,hb0,rfl,Nat.zero_le _,zA1 _,fun k x hk _=>absurd hk (Nat.not_lt_zero k)⟩;have G8:=yu (r:=⟨[],⟨b0,0,c0.size,0⟩⟩) K0 I1;rw[List.append_assoc] at G8;have G3:=Ba (xs++ys) ⟨[],⟨b0,0,c0.size,0⟩⟩;have hhl:=zO (xs++ys) ⟨[],⟨b0,0,c0.size,0⟩⟩;rw[List.append_assoc] at G3 hhl;refine ⟨ys++[some ⟨[],⟨b0,0,c0.size,0⟩⟩],[.o (.sl (xs++ys).length 0 0 0 sz)],[],G8,⟨⟨_,0,a,G3,?_,zA1 _,rfl,.inl rfl⟩,trivial⟩,rfl,_,rfl,⟨[],⟨by simp,.inr ⟨_,0,0,rfl,?_,[],?_,?_,by simp⟩⟩,trivial⟩,by simp⟩
  ·show 0+0*sz≤0;omega
  ·show (xs++ys).length<(xs++(ys++[_])).length;simp only[List.length_append,List.length_cons,List.length_nil];omega
  ·rw[hhl];rfl
  simp
 
 have hblk:a.spot=none∧∃ c e f,W.heap[a.block]?=some (.cells c e f):=by
  obtain ⟨cs',h1,_⟩:=C3 0 hm0;obtain ⟨_,h2,h3⟩:=World.cells?_some h1;have h4:=h3 0 Z5;rw[Nat.zero_mul,Addr.add,zB0 rfl,Addr.add,zB0 rfl,zB4 (by omega)] at h4;unfold World.cell? at h4;split at h4
  ·rename_i c e f hh
   split at h4
   ·cases h4
   rename_i hs
   exact ⟨by cases hq:a.spot with|none=>rfl|some q=>rw[hq] at hs;exact absurd rfl hs,c,e,f,hh⟩
  cases h4
 obtain ⟨hsp,c,e',f',hc⟩:=hblk;obtain ⟨b,o,sp⟩:=a;simp only at hsp hc
 subst hsp;have addA:∀ k:Nat,(⟨b,o,none⟩:Addr).add k=⟨b,o+k,none⟩:=fun k=>by
  unfold Addr.add;split
  ·rename_i h0;rw[h0];rfl
  rfl
 have at_:∀ k j,k<m→j<sz→∀ cs',W.cells? 0 ((⟨b,o,none⟩:Addr).add (k*sz)) sz=some cs'→c[o+(k*sz+j)]?=cs'[j]?:=fun k j hk hj cs' h1=>by
  obtain ⟨_,h2,h3⟩:=World.cells?_some h1;have h4:=h3 j hj;rw[Deep.add_add,addA] at h4;rw[←h4];unfold World.cell?;simp only[hc];rfl
 have hsize:o+m*sz≤c.size:=by
  obtain ⟨cs',h1,_⟩:=C3 (m - 1) (by omega);have h2:=(World.cells?_some h1).2.1;have h3:=at_ (m - 1) (sz - 1) (by omega) (by omega) cs' h1;rw[zB4 (by omega)] at h3;have h4:=(Array.getElem?_eq_some_iff.1 h3).1;have h5:(m - 1)*sz+sz=m*sz:=by rw[←Nat.succ_mul];congr 1;omega
  omega
 have hlm:len*sz≤m*sz:=Nat.mul_le_mul_right _ hl;have I1:pC (jo (xs++ys)) W (css.flatMap id) ⟨b,o,c.size,len*sz⟩:=by
  refine ⟨c,e',f',hc,rfl,?_,?_,fun k x U4 L2=>?_⟩
  ·show o+len*sz≤c.size;omega
  ·show len*sz≤_;omega
  have B_:k<len*sz:=U4;have hq:k / sz<len:=(Nat.div_lt_iff_lt_mul Z5).2 B_;have hr:k % sz<sz:=Nat.mod_lt _ Z5;have Y3:k=k / sz*sz+k % sz:=by have:=Nat.div_add_mod k sz;rw[Nat.mul_comm] at this;omega
  obtain ⟨c1,cs1,g1,g2,g3⟩:=hk (k / sz) hq;have g4:=at_ (k / sz) (k % sz) (by omega) hr cs1 g2;have g5:=vG hlens g1;have M7:cs1.length=sz:=(World.cells?_some g2).2.1;have g6:c1[k % sz]?=some x:=by
   rw[←g5,List.getElem?_take,zB0 hr,List.getElem?_drop,←Y3];exact L2
  rw[←Y3,zB4 (by omega)] at g4;exact ⟨_,g4,CRs.get g3 _ _ _ g6 (zB4 (by omega))⟩
 have G8:=yu (r:=⟨css.flatMap id,⟨b,o,c.size,len*sz⟩⟩) K0 I1;have G3:=Ba (xs++ys) ⟨css.flatMap id,⟨b,o,c.size,len*sz⟩⟩;have hhl:=zO (xs++ys) ⟨css.flatMap id,⟨b,o,c.size,len*sz⟩⟩;rw[List.append_assoc] at G8 G3 hhl;have P0:Gr (mq (xs++ys)) (mq (xs++(ys++[some ⟨css.flatMap id,⟨b,o,c.size,len*sz⟩⟩]))):=by rw[←List.append_assoc];exact uu _ _
 refine ⟨ys++[some ⟨css.flatMap id,⟨b,o,c.size,len*sz⟩⟩],[.o (.sl (xs++ys).length 0 0 len sz)],l,G8,⟨⟨_,m,_,G3,?_,hl,rfl,.inr ⟨rfl,?_⟩⟩,trivial⟩,rfl,_,rfl,
  ⟨css,⟨by rw[hll];exact p8,.inr ⟨_,0,0,by rw[hll],?_,css.flatMap id,?_,?_,?_⟩⟩,v8.mono fun c x ⟨u,v⟩=>⟨u,hR _ _ _ _ _ v P0⟩⟩,by rw[hll];exact hwl⟩
 ·show 0+len*sz≤len*sz;omega
 ·show o+0+m*sz≤c.size;omega
 ·show (xs++ys).length<(xs++(ys++[_])).length;simp only[List.length_append,List.length_cons,List.length_nil];omega
 ·rw[hhl];rfl
 ·rw[hll];omega
 rw[List.drop_zero,hll,List.take_of_length_le (by omega)]
theorem rF {f:α→List AC}:∀ {css:List (List AC)} {l:List α},Al (fun c x=>c=f x) css l→css.flatMap id=l.flatMap f
 | [],[],_=>rfl
 | c::css,x::l,h=>by
  rw[List.flatMap_cons,List.flatMap_cons,rF h.2,←h.1];rfl
 | [],_::_,h=>h.elim
 | _::_,[],h=>h.elim
theorem Al.all {γ:Type} {R:γ→α→Prop} {Q:α→Prop} (hq:∀ c x,R c x→Q x):∀ {cs:List γ} {l:List α},Al R cs l→∀ x∈l,Q x
 | [],[],_,x,hx=>by cases hx
 | c::cs,y::l,h,x,hx=>by
  rcases List.mem_cons.1 hx with rfl|hx
  ·exact hq c _ h.1
  exact Al.all hq h.2 x hx
 | [],_::_,h,_,_=>h.elim
 | _::_,[],h,_,_=>h.elim
end
theorem qB:type_of% (zB3 @Qp (zB3 @LZ (zB3 @Tt (zB3 @Wt (zB3 @YP (zB3 @Tw (zB3 @Wp (zB3 @Wz (zB3 @Ww (zB3 @GI (zB3 @List.map_cons.{0,0} (zB3 @List.map_nil.{0,0} (zB3 @List.getElem?_cons_zero.{0} (zB3 @List.getElem?_cons_succ.{0} (zB3 @Option.elim_some.{1,0} (zB3 @Option.map_some.{0,0} (zB3 @Option.bind_some.{0,0} (zB3 @AM (zB3 @Kz (zB3 @GA (zB3 @LS (zB3 @decide_eq_true_eq (zB3 @decide_true (zB3 @decide_false (zB3 @GM (zB3 @pk (zB3 @SX (zB3 @Ff (zB3 @HD (zB3 @El (zB3 @Fz (zB3 @GV (zB3 @Wr (zB3 @sZ (zB3 @rq (zB3 @wG (zB3 @ND (zB3 @tu (zB3 @Nat.add_one_sub_one (zB3 @Nat.one_mul (zB3 @Ug (zB3 @TV (zB3 @Ih (zB3 @YF (zB3 @Yb (zB3 @WY (zB3 @Option.map_none.{0,0} (zB3 @Nat.lt_add_left_iff_pos (zB3 @Nat.zero_lt_succ (zB3 @Nat.le_add_left (zB3 @KD (zB3 @ym (zB3 @KI (zB3 @Gy (zB3 @Tv (zB3 @KL (zB3 @En (zB3 @Rh (zB3 @QN (zB3 @pD (zB3 @DV (zB3 @pZ (zB3 @Ge (zB3 @uT (zB3 @sV (zB3 @tx (zB3 @vh (zB3 @rG (zB3 @Hg (zB3 @oD (zB3 @RM (zB3 @yC (zB3 @Nj (zB3 @wP (zB3 @NP (zB3 @RO (zB3 @KN (zB3 @QG (zB3 @Nt (zB3 @NJ (zB3 @WZ (zB3 @Hz (zB3 @Lh (zB3 @aa (zB3 @aw (zB3 @Aa (zB3 @aj (zB3 @Nat.blt_eq (zB3 @true_and (zB3 @and_true (zB3 @true_or (zB3 @or_true (zB3 @if_true.{1} (zB3 @if_false.{1} (zB3 @Bool.false_eq_true (zB3 @Bool.true_eq_false (zB3 @not_false_eq_true (zB3 @not_true_eq_false (zB3 @LR (zB3 @Ch (zB3 @tW (zB3 @Lf (zB3 @WB (zB3 @td (zB3 @MV (zB3 @aB (zB3 @aW (zB3 @al (zB3 @aI (zB3 @WR (zB3 @SE (zB3 @Yj (zB3 @Yw (zB3 @WN (zB3 @Wn (zB3 @KR (zB3 @Mr (zB3 @Yd (zB3 @YE (zB3 @fE (zB3 @sS (zB3 @bF (zB3 @FQ (zB3 @qx (zB3 @tY (zB3 @KQ (zB3 @fF (zB3 @pR (zB3 @Bool.not_eq_true' (zB3 @Bool.not_eq_false' (zB3 @decide_eq_false_iff_not (zB3 @ne_eq.{1} (zB3 @Nat.lt_irrefl (zB3 @gt_iff_lt.{0} (zB3 @Bm (zB3 @yt (zB3 @Ac (zB3 @yX (zB3 @List.length_cons.{0} (zB3 @List.length_nil.{0} (zB3 @Nat.zero_add (zB3 @Nat.add_zero (zB3 @Nat.le_refl (zB3 @Nat.zero_le (zB3 @vq (zB3 @sY (zB3 @te (zB3 @qy (zB3 @List.cons_append.{0} (zB3 @List.nil_append.{0} (zB3 @List.append_nil.{0} (zB3 @YM (zB3 @Wx (zB3 @YL (zB3 @WM (zB3 @Ym (zB3 @WW (zB3 @RI (zB3 @Rt (zB3 @TW (zB3 @Qc (zB3 @RD (zB3 @SM (zB3 @PH (zB3 @TO (zB3 @SR (zB3 @Qr (zB3 @Ry (zB3 @PQ (zB3 @Uf (zB3 @TF (zB3 @PU (zB3 @List.take_succ_cons.{0} (zB3 @List.take_zero.{0} (zB3 @List.drop_succ_cons.{0} (zB3 @List.drop_zero.{0} (zB3 @List.take_nil.{0} (zB3 @List.drop_nil.{0} (zB3 @List.headD_cons.{0} (zB3 @Bool.not_true (zB3 @Bool.not_false (zB3 @Nat.lt_add_one (zB3 @Lm (zB3 @WA (zB3 @DW (zB3 @MA (zB3 @nR (zB3 @tQ (zB3 @ug (zB3 @ur (zB3 @yz (zB3 @Hw (zB3 @Bq (zB3 @Nat.zero_mul (zB3 @wZ (zB3 @tz (zB3 @wF (zB3 @Ar (zB3 @rf (zB3 @Iu (zB3 @Dw (zB3 @Sx (zB3 @qi (zB3 @ze (zB3 @zn (zB3 @AN (zB3 @sW (zB3 @qv (zB3 @rH (zB3 @Lg (@LA))))))))))))))))))))))))))))))))))))))))))))))))))))))))))))))))))))))))))))))))))))))))))))))))))))))))))))))))))))))))))))))))))))))))))))))))))))))))))))))))))))))))))))))))))))))))))))))))))))))))))))))))))):=zB3 @Qp (zB3 @LZ (zB3 @Tt (zB3 @Wt (zB3 @YP (zB3 @Tw (zB3 @Wp (zB3 @Wz (zB3 @Ww (zB3 @GI (zB3 @List.map_cons.{0,0} (zB3 @List.map_nil.{0,0} (zB3 @List.getElem?_cons_zero.{0} (zB3 @List.getElem?_cons_succ.{0} (zB3 @Option.elim_some.{1,0} (zB3 @Option.map_some.{0,0} (zB3 @Option.bind_some.{0,0} (zB3 @AM (zB3 @Kz (zB3 @GA (zB3 @LS (zB3 @decide_eq_true_eq (zB3 @decide_true (zB3 @decide_false (zB3 @GM (zB3 @pk (zB3 @SX (zB3 @Ff (zB3 @HD (zB3 @El (zB3 @Fz (zB3 @GV (zB3 @Wr (zB3 @sZ (zB3 @rq (zB3 @wG (zB3 @ND (zB3 @tu (zB3 @Nat.add_one_sub_one (zB3 @Nat.one_mul (zB3 @Ug (zB3 @TV (zB3 @Ih (zB3 @YF (zB3 @Yb (zB3 @WY (zB3 @Option.map_none.{0,0} (zB3 @Nat.lt_add_left_iff_pos (zB3 @Nat.zero_lt_succ (zB3 @Nat.le_add_left (zB3 @KD (zB3 @ym (zB3 @KI (zB3 @Gy (zB3 @Tv (zB3 @KL (zB3 @En (zB3 @Rh (zB3 @QN (zB3 @pD (zB3 @DV (zB3 @pZ (zB3 @Ge (zB3 @uT (zB3 @sV (zB3 @tx (zB3 @vh (zB3 @rG (zB3 @Hg (zB3 @oD (zB3 @RM (zB3 @yC (zB3 @Nj (zB3 @wP (zB3 @NP (zB3 @RO (zB3 @KN (zB3 @QG (zB3 @Nt (zB3 @NJ (zB3 @WZ (zB3 @Hz (zB3 @Lh (zB3 @aa (zB3 @aw (zB3 @Aa (zB3 @aj (zB3 @Nat.blt_eq (zB3 @true_and (zB3 @and_true (zB3 @true_or (zB3 @or_true (zB3 @if_true.{1} (zB3 @if_false.{1} (zB3 @Bool.false_eq_true (zB3 @Bool.true_eq_false (zB3 @not_false_eq_true (zB3 @not_true_eq_false (zB3 @LR (zB3 @Ch (zB3 @tW (zB3 @Lf (zB3 @WB (zB3 @td (zB3 @MV (zB3 @aB (zB3 @aW (zB3 @al (zB3 @aI (zB3 @WR (zB3 @SE (zB3 @Yj (zB3 @Yw (zB3 @WN (zB3 @Wn (zB3 @KR (zB3 @Mr (zB3 @Yd (zB3 @YE (zB3 @fE (zB3 @sS (zB3 @bF (zB3 @FQ (zB3 @qx (zB3 @tY (zB3 @KQ (zB3 @fF (zB3 @pR (zB3 @Bool.not_eq_true' (zB3 @Bool.not_eq_false' (zB3 @decide_eq_false_iff_not (zB3 @ne_eq.{1} (zB3 @Nat.lt_irrefl (zB3 @gt_iff_lt.{0} (zB3 @Bm (zB3 @yt (zB3 @Ac (zB3 @yX (zB3 @List.length_cons.{0} (zB3 @List.length_nil.{0} (zB3 @Nat.zero_add (zB3 @Nat.add_zero (zB3 @Nat.le_refl (zB3 @Nat.zero_le (zB3 @vq (zB3 @sY (zB3 @te (zB3 @qy (zB3 @List.cons_append.{0} (zB3 @List.nil_append.{0} (zB3 @List.append_nil.{0} (zB3 @YM (zB3 @Wx (zB3 @YL (zB3 @WM (zB3 @Ym (zB3 @WW (zB3 @RI (zB3 @Rt (zB3 @TW (zB3 @Qc (zB3 @RD (zB3 @SM (zB3 @PH (zB3 @TO (zB3 @SR (zB3 @Qr (zB3 @Ry (zB3 @PQ (zB3 @Uf (zB3 @TF (zB3 @PU (zB3 @List.take_succ_cons.{0} (zB3 @List.take_zero.{0} (zB3 @List.drop_succ_cons.{0} (zB3 @List.drop_zero.{0} (zB3 @List.take_nil.{0} (zB3 @List.drop_nil.{0} (zB3 @List.headD_cons.{0} (zB3 @Bool.not_true (zB3 @Bool.not_false (zB3 @Nat.lt_add_one (zB3 @Lm (zB3 @WA (zB3 @DW (zB3 @MA (zB3 @nR (zB3 @tQ (zB3 @ug (zB3 @ur (zB3 @yz (zB3 @Hw (zB3 @Bq (zB3 @Nat.zero_mul (zB3 @wZ (zB3 @tz (zB3 @wF (zB3 @Ar (zB3 @rf (zB3 @Iu (zB3 @Dw (zB3 @Sx (zB3 @qi (zB3 @ze (zB3 @zn (zB3 @AN (zB3 @sW (zB3 @qv (zB3 @rH (zB3 @Lg (@LA))))))))))))))))))))))))))))))))))))))))))))))))))))))))))))))))))))))))))))))))))))))))))))))))))))))))))))))))))))))))))))))))))))))))))))))))))))))))))))))))))))))))))))))))))))))))))))))))))))))))))))))))))
theorem qD:type_of% (zB3 @zh (zB3 @Hb (zB3 @HU (zB3 @KF (zB3 @RH (zB3 @QA (zB3 @WI (zB3 @Nl (zB3 @EZ (zB3 @Nk (zB3 @PB (zB3 @MN (zB3 @zN (zB3 @KP (zB3 @HR (zB3 @SQ (zB3 @EK (zB3 @KO (zB3 @Ea (zB3 @rI (zB3 @pY (zB3 @Fw (zB3 @uF (zB3 @Ir (zB3 @oF (zB3 @sQ (zB3 @EA (zB3 @Sj (zB3 @QT (zB3 @Nu (zB3 @Bi (zB3 @SI (zB3 @LK (zB3 @Gh (zB3 @zC (zB3 @zA (zB3 @AJ (zB3 @ox (zB3 @oG (zB3 @GB (zB3 @Ig (zB3 @EE (zB3 @Iy (zB3 @HJ (zB3 @FP (zB3 @List.not_mem_nil.{0} (zB3 @List.mem_singleton.{0} (zB3 @Option.some.injEq.{0} (@exists_eq_left'.{1}))))))))))))))))))))))))))))))))))))))))))))))))):=zB3 @zh (zB3 @Hb (zB3 @HU (zB3 @KF (zB3 @RH (zB3 @QA (zB3 @WI (zB3 @Nl (zB3 @EZ (zB3 @Nk (zB3 @PB (zB3 @MN (zB3 @zN (zB3 @KP (zB3 @HR (zB3 @SQ (zB3 @EK (zB3 @KO (zB3 @Ea (zB3 @rI (zB3 @pY (zB3 @Fw (zB3 @uF (zB3 @Ir (zB3 @oF (zB3 @sQ (zB3 @EA (zB3 @Sj (zB3 @QT (zB3 @Nu (zB3 @Bi (zB3 @SI (zB3 @LK (zB3 @Gh (zB3 @zC (zB3 @zA (zB3 @AJ (zB3 @ox (zB3 @oG (zB3 @GB (zB3 @Ig (zB3 @EE (zB3 @Iy (zB3 @HJ (zB3 @FP (zB3 @List.not_mem_nil.{0} (zB3 @List.mem_singleton.{0} (zB3 @Option.some.injEq.{0} (@exists_eq_left'.{1}))))))))))))))))))))))))))))))))))))))))))))))))
def ju (c:List AC):List Nat:=c.flatMap fun a=>(AV.one a).ids
theorem vb:ju []=[]:=rfl
theorem sy (a:AC) (c:List AC):ju (a::c)=(AV.one a).ids++ju c:=rfl
theorem TG (k:IntKind) (n:Int):(AV.one (.i k n)).ids=[]:=rfl
theorem NC (s:List UInt8):(AV.one (.o (.str s))).ids=[]:=rfl
section
variable {α:Type}
def FrR (R:Hp→List AC→α→Prop):Prop:=∀ (Y:Nat→Prop) (H H':Hp) (c:List AC) (x:α),R H c x→Fr Y H H'→(∀ id∈ju c,¬Y id)→R H' c x
def LtR (R:Hp→List AC→α→Prop):Prop:=∀ (H:Hp) (c:List AC) (x:α),R H c x→∀ id∈ju c,id<H.nx
structure bK (R:Hp→List AC→α→Prop) (sz:Nat) (e:TypeId) (X:Nat→Prop) (H:Hp) (v:AC) (l:List α) (r:Option Nat):Prop where
 row:∀ q,r=some q→¬X q∧q<H.nx
 own:∃ css:List (List AC),dm H v e sz l.length (css.flatMap id) r∧Al (fun c x=>c.length=sz∧R H c x∧∀ id∈ju c,¬X id∧some id≠r) css l
theorem dm.rlt {H:Hp} {v:AC} {e:TypeId} {sz n:Nat} {cells:List AC} {q:Nat} (h:dm H v e sz n cells (some q)):q<H.nx:=by
 rcases h with ⟨_,_,_,e⟩|⟨id,lo,gen,e,_,_,_,_,hl⟩
 ·cases e
 cases e;exact hl
theorem bK.nil {R:Hp→List AC→α→Prop} {sz:Nat} {e:TypeId} {X:Nat→Prop} {H:Hp}:bK R sz e X H (.o .nilS) [] none where
 row:=fun q hq=>by cases hq
 own:=⟨[],.inl ⟨rfl,rfl,rfl,rfl⟩,trivial⟩
theorem bK.fr {R:Hp→List AC→α→Prop} (hR:FrR R) (hl:LtR R) {sz:Nat} {e:TypeId} {X Y:Nat→Prop} {H H':Hp} {v:AC} {l:List α} {r:Option Nat} (h:bK R sz e X H v l r) (hf:Fr Y H H') (hy:∀ i,Y i→X i∨H.nx≤i):bK R sz e X H' v l r where
 row:=fun q hq=>⟨(h.row q hq).1,zA0 (h.row q hq).2 hf.nx⟩
 own:=by
  obtain ⟨css,a,b⟩:=h.own;refine ⟨css,a.fr hf fun i hi hyi=>?_,b.mono fun c x ⟨h1,h2,h3⟩=>⟨h1,hR _ _ _ _ _ h2 hf fun i hi hyi=>?_,h3⟩⟩
  ·have:=h.row i hi;rcases hy i hyi with h|h
   ·exact this.1 h
   omega
  have h4:=hl _ _ _ h2 i hi;rcases hy i hyi with h|h
  ·exact (h3 i hi).1 h
  omega
theorem bK.gr {R:Hp→List AC→α→Prop} (hR:FrR R) (hl:LtR R) {sz:Nat} {e:TypeId} {X:Nat→Prop} {H H':Hp} {v:AC} {l:List α} {r:Option Nat} (h:bK R sz e X H v l r) (hf:Gr H H'):bK R sz e X H' v l r:=h.fr hR hl hf fun _ h=>h.elim
theorem bK.Yr {R:Hp→List AC→α→Prop} (hl:LtR R) {sz:Nat} {e:TypeId} {X:Nat→Prop} {H:Hp} {v:AC} {l:List α} {r:Option Nat} (h:bK R sz e X H v l r):bK R sz e (fun i=>X i∨H.nx≤i) H v l r where
 row:=fun q hq=>⟨fun hh=>hh.elim (h.row q hq).1 fun hh=>by have:=(h.row q hq).2;omega,(h.row q hq).2⟩
 own:=by
  obtain ⟨css,a,b⟩:=h.own;exact ⟨css,a,b.mono fun c x ⟨h1,h2,h3⟩=>⟨h1,h2,fun i hi=>⟨fun hh=>hh.elim (h3 i hi).1 fun hh=>by have:=hl _ _ _ h2 i hi;omega,(h3 i hi).2⟩⟩⟩
theorem bK.less {R:Hp→List AC→α→Prop} {sz:Nat} {e:TypeId} {X X':Nat→Prop} {H:Hp} {v:AC} {l:List α} {r:Option Nat} (h:bK R sz e X H v l r) (hx:∀ i,X' i→X i):bK R sz e X' H v l r where
 row:=fun q hq=>⟨fun hh=>(h.row q hq).1 (hx _ hh),(h.row q hq).2⟩
 own:=by
  obtain ⟨css,a,b⟩:=h.own;exact ⟨css,a,b.mono fun c x ⟨h1,h2,h3⟩=>⟨h1,h2,fun i hi=>⟨fun hh=>(h3 i hi).1 (hx _ hh),(h3 i hi).2⟩⟩⟩
theorem bK.slr {R:Hp→List AC→α→Prop} {sz:Nat} {e:TypeId} {X:Nat→Prop} {H:Hp} {v:AC} {l:List α} {r:Option Nat} (h:bK R sz e X H v l r):SlR R sz H v l:=by
 obtain ⟨css,a,b⟩:=h.own;exact ⟨css,a.slc,b.mono fun c x ⟨h1,h2,_⟩=>⟨h1,h2⟩⟩
theorem bK.lt {R:Hp→List AC→α→Prop} {sz:Nat} {e:TypeId} {X:Nat→Prop} {H:Hp} {v:AC} {l:List α} {r:Option Nat} (h:bK R sz e X H v l r):ltV (.one v) H.nx:=by
 obtain ⟨css,a,b⟩:=h.own;exact a.lt
theorem bK.push {P:Program} {R:Hp→List AC→α→Prop} (hR:FrR R) (hl:LtR R) {H:Hp} {t e:TypeId} {sz by_:Nat} {z:Value} {X:Nat→Prop} {v:AC} {l:List α} {r:Option Nat} (he:ba P t=some (e,sz)) (hb:bW P e=some by_) (hz:ax P e=some z) (X0:(ofValue z).cells.length=sz) (J1:sz≠0)
  (ho:bK R sz e X H v l r) (hX:∀ i,X i→i<H.nx) {c0:List AC} {x:α} (X5:c0.length=sz) (hx:R H c0 x) (hi:∀ id∈ju c0,¬X id∧some id≠r) (hL:l.length+1≤140737488355328∧(l.length+1)*by_≤140737488355328):
  ltV (.one v) (H.new (.arr c0 e 0 0)).nx∧∃ v' H' r',aL P (H.new (.arr c0 e 0 0)) t (.one v) (.one (.o (.sl H.nx 0 0 1 sz)))=.val (.one v') H' ∧
   bK R sz e X H' v' (l++[x]) (some r')∧Fr (fun i=>r=some i) H H'∧(r=some r'∨H.nx≤r'):=by
 obtain ⟨css,a,b⟩:=ho.own;obtain ⟨D0,v',H',r',U1,U2,hf,hr⟩:=gZ he hb hz X0 J1 a c0 X5 hL;have keep:∀ c y,c.length=sz∧R H c y∧(∀ id∈ju c,¬X id∧some id≠r)→c.length=sz∧R H' c y∧∀ id∈ju c,¬X id∧some id≠some r':=fun c y ⟨h1,h2,h3⟩=>by
  refine ⟨h1,hR _ _ _ _ _ h2 hf fun i hi e=>(h3 i hi).2 e.symm,fun i hi=>⟨(h3 i hi).1,fun e=>?_⟩⟩;cases e
  rcases hr with h|h
  ·exact (h3 _ hi).2 h.symm
  have:=hl _ _ _ h2 _ hi;omega
 refine ⟨D0,v',H',r',U1,⟨fun q hq=>?_,css++[c0],?_,Al.app (b.mono keep) (keep _ _ ⟨X5,hx,hi⟩)⟩,hf,hr⟩
 ·cases hq
  refine ⟨fun hh=>?_,U2.rlt⟩;rcases hr with h|h
  ·exact (ho.row _ h).1 hh
  have:=hX _ hh;omega
 rw[List.flatMap_append,List.length_append];have e1:([c0]:List (List AC)).flatMap id=c0:=by simp
 rw[e1];exact U2
end
theorem Jr {P:Program} {H:Hp} {t e:TypeId} {sz by_:Nat} {z:Value} {k k':IntKind} {n:Nat} (he:ba P t=some (e,sz)) (hb:bW P e=some by_) (hz:ax P e=some z) (X0:(ofValue z).cells.length=sz) (hn:n≤1073741824∧n*by_≤140737488355328):
  dR P H t (.one (.i k (n:Int))) (.one (.i k' (n:Int)))=.val (.one (.o (.sl H.nx 0 0 n sz))) (H.new (.arr (kh (ofValue z).cells n) e 0 0)):=by
 have h1:Nat.ble n n=true:=zA5 (zA1 _);have h2:Nat.ble n 1073741824=true:=zA5 hn.1;have h3:Nat.ble (Nat.mul n by_) 140737488355328=true:=zA5 hn.2;have h4:Nat.beq (bh (ofValue z).cells) sz=true:=by rw[aX,X0];exact Nat.beq_refl _
 unfold dR;rw[he];show nd (bW P e) _ _=_;rw[hb];show nd (ax P e) _ _=_;rw[hz];show aF (both (Nat.ble n n) (both (Nat.ble n 1073741824) (both (Nat.ble (Nat.mul n by_) 140737488355328) (Nat.beq (bh (ofValue z).cells) sz)))) _ _=_;rw[h1,h2,h3,h4];rfl
theorem ML {a:AC}:∀ (n:Nat),kh [a] n=List.replicate n a
 | 0=>rfl
 | n+1=>by
  show lV [a] (kh [a] n)=_;rw[ML n];rfl
theorem setRow {α:Type} (f:α→AC) (l:List α) (i:Nat) (a:α) (h:i<l.length):(l.map f).take i++f a::(l.map f).drop (i+1)=(l.set i a).map f:=by
 rw[List.set_eq_take_append_cons_drop,zB0 h,List.map_append,List.map_cons,List.map_take,List.map_drop]
def Mk (bs:List Bool) (n:Nat) (S:List Int):Prop:=bs.length=n∧∀ j:Nat,j<n→bs.getD j false=S.any fun x=>x==(j:Int)
theorem unU {m:Nat} {did:List DSy} {H:Hp} (h:bB m did=[]):∀ i,i<H.nx→cP i (bB m did):=fun i _=>by rw[h];trivial
theorem NU {P:Program} {W:World} {r:Reach} {base:Nat} {u:TypeId} {a:Addr} {l c:Nat} (h:Cell.okWide P W r base u (.slice (some a) l c)):ni W:=by
 have h2:Cell.ok P W r base u (.slice (some a) l c):=by
  unfold Cell.okWide at h;cases hu:P.underlying u with
  | none=>rw[hu] at h;exact h
  | some d=>rw[hu] at h;cases d <;> exact h
 unfold Cell.ok at h2;cases hu:P.underlying u with
 | none=>rw[hu] at h2;exact h2.elim
 | some d=>
  rw[hu] at h2;cases d
  case slice e=>
   obtain ⟨_,_,_,_,row,cells,Q9,_⟩:=h2;unfold World.shape? at Q9;split at Q9
   ·rename_i c e f hh;exact ⟨_,c,e,f,hh⟩
   cases Q9
  all_goals exact h2.elim
section
variable {P:Program} {W:World} {α β:Type}
def YD (cs:List Value):Prop:=∀ v∈cs,∀ a l c,v≠.slice (some a) l c
def IT (P:Program) (W:World) (sz:Nat) (R:Nat→Hp→List AC→α→Prop) (t:TypeId):Prop:=
 ∀ (H:Type) (enc:TypeId×Value→H) (fuel:Nat) (cs:List Value) (d:DataW H) (p:List MemPlace) (B:Nat),
  DataW.trod enc P W 0 (fun _=>true) true fuel t cs=some (d,p)→(∀ n∈d.weights P t,n≤B)→YD cs →
  ∀ xs,fA W xs→∃ ys c x,fA W (xs++ys)∧CRs (jo (xs++ys)) c cs∧c.length=sz∧R B (mq (xs++ys)) c x
theorem Opn.z {sz:Nat} {R:Nat→Hp→List AC→α→Prop} {t:TypeId} (h:Opn P W sz R t):IT P W sz R t:=fun H enc fuel cs d p B hd hw _ xs hx=>h H enc fuel cs d p B hd hw xs hx
theorem pc {sz:Nat} {R:Nat→Hp→List AC→α→Prop} {t e:TypeId} (ht:P.underlying t=some (.slice e)):IT P W 1 (xO P e sz R) t:=by
 intro H enc fuel cs d p B hd hw hz xs hx;rcases Deep.open_slice ht hd with ⟨rfl,e1⟩|⟨a,len,cap,m,n,D,Pl,rfl,_⟩
 ·exact ⟨[],[.o .nilS],[],by rwa [List.append_nil],⟨rfl,trivial⟩,rfl,.o .nilS,rfl,⟨[],⟨by simp,.inl ⟨rfl,rfl⟩⟩,trivial⟩,by simp⟩
 exact absurd rfl (hz _ (List.mem_singleton.2 rfl) a len cap)
def Nx (P:Program) (W:World) (sz:Nat) (R:Nat→Hp→List AC→α→Prop) (ts:List TypeId):Prop:=
 ∀ (H:Type) (enc:TypeId×Value→H) (n:Nat) (cs:List Value) (ys:List (DataW H×List MemPlace)) (B:Nat),
  Lb enc P W n ts cs ys→(∀ n∈DataW.weightsEach P ts (ys.map (·.1)),n≤B)→YD cs →
  ∀ xs,fA W xs→∃ rs c x,fA W (xs++rs)∧CRs (jo (xs++rs)) c cs∧c.length=sz∧R B (mq (xs++rs)) c x
theorem zu {sz:Nat} {R:Nat→Hp→List AC→α→Prop} {t:TypeId} (h:IT P W sz R t):Nx P W sz R [t]:=by
 intro H enc n cs ys B hp hw hz xs hx;match ys,hp with
 | [y],⟨h1,h2,h3⟩=>
  have h3':cs.drop (P.cellsOf t)=[]:=h3;have e:cs.take (P.cellsOf t)=cs:=by have:=List.take_append_drop (P.cellsOf t) cs;rwa [h3',List.append_nil] at this
  rw[e] at h2;exact h H enc n cs y.1 y.2 B h2 (fun n hn=>hw n (by simp[DataW.weightsEach,hn])) hz xs hx
theorem pj {sz sz':Nat} {R:Nat→Hp→List AC→α→Prop} {S:Nat→Hp→List AC→β→Prop} {t:TypeId} {ts:List TypeId} (h:IT P W sz R t) (hR:jP R) (hs:Nx P W sz' S ts):Nx P W (sz+sz') (fJ R S) (t::ts):=by
 intro H enc n cs ys B hp hw hz xs hx;match ys,hp with
 | y::ys,⟨h1,h2,h3⟩=>
  obtain ⟨r1,c1,x1,a1,a2,a3,a4⟩:=h H enc n _ y.1 y.2 B h2 (fun n hn=>hw n (by simp[DataW.weightsEach,hn])) (fun v hv=>hz v (List.mem_of_mem_take hv)) xs hx;obtain ⟨r2,c2,x2,b1,b2,b3,b4⟩:=hs H enc n _ ys B h3 (fun n hn=>hw n (by simp only[List.map_cons,DataW.weightsEach,List.mem_append];exact .inr hn)) (fun v hv=>hz v (List.mem_of_mem_drop hv)) (xs++r1) a1;rw[List.append_assoc] at b1 b2 b4;refine ⟨r1++r2,c1++c2,(x1,x2),b1,?_,by rw[List.length_append,a3,b3],c1,c2,rfl,?_,b4⟩
  ·have:=CRs.append (CRs.mono (by rw[←List.append_assoc];exact mw _ _) a2) b2;rwa [List.take_append_drop] at this
  exact hR _ _ _ _ _ a4 (by rw[←List.append_assoc];exact uu _ _)
theorem tn {sz:Nat} {R:Nat→Hp→List AC→α→Prop} {t:TypeId} {fs:Array Field} {ts:List TypeId} (ht:P.underlying t=some (.struct fs)) (ho:rW P (P.cellsOf t) 0 fs.toList=true) (hts:fs.toList.map (·.type)=ts) (h:Nx P W sz R ts):IT P W sz R t:=by
 intro H enc fuel cs d p B hd hw hz xs hx;obtain ⟨ys,n,_,e,hl,hyl,hf⟩:=DataW.trod_struct ht hd;cases e
 rw[←hl] at ho;have hp:=uK (enc:=enc) (W:=W) (n:=n) (cs:=cs) fs.toList 0 ys ho (by rw[hyl];simp) (fun i f hi=>hf i f (by simpa using hi));rw[hts,List.drop_zero] at hp;refine h H enc n cs ys B hp (fun k hk=>hw k ?_) hz xs hx;simp only[DataW.weights,ht];rwa [hts]
theorem Sc {sz:Nat} {R:Nat→Hp→List AC→α→Prop} {t:TypeId} {fs:Array Field} {v:Value} {base B:Nat} {H:Type} {enc:TypeId×Value→H} {d:DataW H} {p:List MemPlace} (ht:P.underlying t=some (.struct fs)) (hO:ni W→Opn P W sz R t) (hZ:IT P W sz R t)
  (H_:Value.okWide P W .any base t v) (hd:DataW.Trod enc P W 0 (fun _=>true) true t v d p) (hw:∀ n∈d.weights P t,n≤B) (xs:List (Option jr)) (hx:fA W xs):
  ∃ ys c l,fA W (xs++ys)∧AR (jo (xs++ys)) (.agg c) v∧c.length=sz∧R B (mq (xs++ys)) c l:=by
 obtain ⟨fuel,hf⟩:=hd;have hval':∃ cs,v=.agg cs∧cs.size=P.cellsOf t∧Row.okWide P W .any base t cs:=by
  simp only[Value.okWide,ht] at H_;exact H_
 obtain ⟨cs,rfl,J1,I1⟩:=hval';have Q4:(Value.agg cs).cells.toList=cs.toList:=rfl;rw[Q4] at hf;by_cases hB:ni W
 ·obtain ⟨ys,c,l,h1,h2,h3,h4⟩:=hO hB H enc fuel _ d p B hf hw xs hx;exact ⟨ys,c,l,h1,⟨_,h2,by simp⟩,h3,h4⟩
 obtain ⟨ys,c,l,h1,h2,h3,h4⟩:=hZ H enc fuel _ d p B hf hw (fun w hw a l c e=>hB (by
  obtain ⟨i,hi⟩:=List.mem_iff_getElem?.1 hw;obtain ⟨ts,_,_,hr⟩:=I1;obtain ⟨u,_,hu⟩:=hr i w (by rw[←Array.getElem?_toList];exact hi);rw[e] at hu;exact NU hu)) xs hx
 exact ⟨ys,c,l,h1,⟨_,h2,by simp⟩,h3,h4⟩
theorem Qg {t:TypeId} (ht:P.underlying t=some .bool):Opn P W 1 Qu t:=by
 intro H enc fuel cs d p B h hw xs hx;obtain ⟨b,rfl,e,_⟩:=DataW.trod_bool ht h;exact ⟨[],[.b b],b,by rwa [List.append_nil],⟨rfl,trivial⟩,rfl,rfl⟩
theorem PX:jP Qu:=fun _ _ _ _ _ h _=>h
end
theorem my {P:Program} {tm:PT AV} {H:Hp} {o:Oper} {v:Value} (hx:(o.op.operands.toList.all fun x=>(ev tm x).val?.isSome)=true) (he:ay P (execOp (fun x=>aZ (ev tm x)) o)=some (.value v)) (B3:okV v=true):
  aq P tm H o=.val (ofValue v) H:=by
 unfold aq;rw[hx,he];show aF true _ (aF (okV v) _ _)=_;rw[B3];rfl
def UB (f:IntKind→Int→AC) (H:Hp) (alt:ae) (x:AV):ae:=match x with|.one (.i k a)=>.val (.one (f k a)) H|_=>alt
def rA (p:Int→Int→Prop) [∀ a b,Decidable (p a b)] (f:IntKind→Int→Int→AC) (H:Hp) (alt:ae) (x y:AV):ae:=
 match x,y with|.one (.i k a),.one (.i k' b)=>if k=k'∧p a b then .val (.one (f k a b)) H else alt|_,_=>alt
theorem Jk {p:Int→Int→Prop} [∀ a b,Decidable (p a b)] {f:IntKind→Int→Int→AC} {H:Hp} {alt:ae} {k:IntKind} {a b:Int} (h:p a b):rA p f H alt (.one (.i k a)) (.one (.i k b))=.val (.one (f k a b)) H:=zB0 ⟨rfl,h⟩
variable {P:Program} {tm:PT AV} {H:Hp} {d:Option Tmp} {ty:TypeId} {pos:String} {af:Array Edge} {g:Option (Nat×Bool)}
theorem lh {x:AV} {k:IntKind} {a:Int} (h:x=.one (.i k a)):aZ x=.int k a:=by subst h;rfl
theorem Pk {t c:TypeId} {x y:Operand}:aq P tm H ⟨d,.binOp .quo t x y c,ty,pos,af,g⟩=rA (fun _ b=>b≠0) (fun k a b=>.i k (k.wrap (a.tdiv b))) H (bH P tm H ⟨d,.binOp .quo t x y c,ty,pos,af,g⟩) (ev tm x) (ev tm y):=by
 unfold rA;split
 ·rename_i k a k' b hx hy
  by_cases h:k=k'∧b≠0
  ·rw[zB0 h];obtain ⟨rfl,hb⟩:=h;refine my (v:=.int k (k.wrap (a.tdiv b))) ?_ ?_ rfl
   ·show ([x,y].all fun x=>(ev tm x).val?.isSome)=true;simp only[List.all_cons,List.all_nil,hx,hy];rfl
   show ay P (Sem.bind (Sem.bind (eqGuard .quo t x y (aZ (ev tm x)) (aZ (ev tm y))) fun _=>binOp .quo t (aZ (ev tm x)) (aZ (ev tm y))) fun v=>Sem.pure (Next.value v))=_;rw[lh hx,lh hy];have e:binOp .quo t (.int k a) (.int k b)=pure (.int k (k.wrap (a.tdiv b))):=by
    show (if k≠k then _ else Op.intDiv .quo k a b)=_;rw[zB1 (by simp)];unfold Op.intDiv;rw[zB1 hb]
   show ay P (Sem.bind (binOp .quo t (.int k a) (.int k b)) fun v=>Sem.pure (Next.value v))=_;rw[e];rfl
  rw[zB1 h];rfl
 rfl
theorem Oa {t c:TypeId} {x y:Operand}:aq P tm H ⟨d,.binOp .rem t x y c,ty,pos,af,g⟩=rA (fun _ b=>b≠0) (fun k a b=>.i k (a.tmod b)) H (bH P tm H ⟨d,.binOp .rem t x y c,ty,pos,af,g⟩) (ev tm x) (ev tm y):=by
 unfold rA;split
 ·rename_i k a k' b hx hy
  by_cases h:k=k'∧b≠0
  ·rw[zB0 h];obtain ⟨rfl,hb⟩:=h;refine my (v:=.int k (a.tmod b)) ?_ ?_ rfl
   ·show ([x,y].all fun x=>(ev tm x).val?.isSome)=true;simp only[List.all_cons,List.all_nil,hx,hy];rfl
   show ay P (Sem.bind (Sem.bind (eqGuard .rem t x y (aZ (ev tm x)) (aZ (ev tm y))) fun _=>binOp .rem t (aZ (ev tm x)) (aZ (ev tm y))) fun v=>Sem.pure (Next.value v))=_;rw[lh hx,lh hy];have e:binOp .rem t (.int k a) (.int k b)=pure (.int k (a.tmod b)):=by
    show (if k≠k then _ else Op.intDiv .rem k a b)=_;rw[zB1 (by simp)];unfold Op.intDiv;rw[zB1 hb]
   show ay P (Sem.bind (binOp .rem t (.int k a) (.int k b)) fun v=>Sem.pure (Next.value v))=_;rw[e];rfl
  rw[zB1 h];rfl
 rfl
theorem IW {s t:TypeId} {ks kt:IntKind} {x:Operand} (hs:P.underlying s=some (.int ks)) (ht:P.underlying t=some (.int kt)):
  aq P tm H ⟨d,.convert s t x,ty,pos,af,g⟩=UB (fun _ a=>.i kt (kt.wrap a)) H (bH P tm H ⟨d,.convert s t x,ty,pos,af,g⟩) (ev tm x):=by
 unfold UB;split
 ·rename_i k a hx
  refine my (v:=.int kt (kt.wrap a)) ?_ ?_ rfl
  ·show ([x].all fun x=>(ev tm x).val?.isSome)=true;simp only[List.all_cons,List.all_nil,hx];rfl
  show ay P (Sem.bind (convert s t (aZ (ev tm x))) fun v=>Sem.pure (Next.value v))=_;rw[lh hx,aP];unfold convert;rw[bc,bS hs];simp only[Option.bind_some];rw[bc,bS ht];rfl
 rfl
theorem XF {kd:Nat} {k k':IntKind} {a b:Int} {alt:ae}:bt H kd .rem (eJ .rem) (.one (.i k a)) (.one (.i k' b)) alt=alt:=by cases k <;> cases k' <;> rfl
theorem Xo {kd:Nat} {k k':IntKind} {a b:Int} {alt:ae}:bt H kd .quo (eJ .quo) (.one (.i k a)) (.one (.i k' b)) alt=alt:=by cases k <;> cases k' <;> rfl
def Hd (p:Prop):Prop:=p
theorem Hd.out {p:Prop} (h:Hd p):p:=h
theorem qA {a b:Prop} (h:a) (k:b):a∧b:=⟨h,k⟩
inductive WK (E:Env) (r:Option Nat) (Q:aA→ab→Hp→Prop) (B:ab) (H:Hp):Code→Prop
 | ret:Q .ret B H→WK E r Q B H .ret
 | exit (id:Nat):Q (.exit id) B H→WK E r Q B H (.exit id)
 | skip:Q .normal B H→WK E r Q B H .skip
 | pO (z:Code):Q .ret B H→WK E r Q B H (.seq .ret z)
 | lC (id:Nat) (z:Code):Q (.exit id) B H→WK E r Q B H (.seq (.exit id) z)
 | aE (x y z:Code):R1 E r (.seq x (.seq y z)) B H Q→WK E r Q B H (.seq (.seq x y) z)
 | aT (z:Code):R1 E r z B H Q→WK E r Q B H (.seq .skip z)
 | iG (x z:Code):R1 E r (.seq x z) B H Q→WK E r Q B H (.seq (.scope x) z)
section
variable {E:Env} {r:Option Nat} {c z:Code} {B:ab} {H:Hp} {Q:aA→ab→Hp→Prop}
theorem R1.w (h:WK E r Q B H c):R1 E r c B H Q:=by
 cases h with
 | ret h=>exact R1.ret h
 | exit id h=>exact R1.exit h
 | skip h=>exact R1.skip h
 | pO z h=>exact R1.pO h
 | lC id z h=>exact R1.lC h
 | aE x y z h=>exact R1.aE h
 | aT z h=>exact R1.aT h
 | iG x z h=>exact R1.iG h
theorem R1.s_r {id:Nat} {ops:Array Oper} {dr:Bool} (hs:(bif dr then lR false ops else true)=true) (h:∀ K:ab→Hp→Prop,(∀ B H,R1 E r z B H Q→K B H)→SG false E K (ops.toList.map fun o=>gOf ops.toList o.guard) ops.toList B H):R1 E r (.seq (.region id ops dr) z) B H Q:=by
 cases dr with
 | true=>exact R1.EC hs h
 | false=>exact R1.ow h
theorem R1.e_r {id:Nat} {ops:Array Oper} {dr:Bool} (hs:(bif dr then lR false ops else true)=true) (h:∀ K:ab→Hp→Prop,(∀ B H,Q .normal B H→K B H)→SG false E K (ops.toList.map fun o=>gOf ops.toList o.guard) ops.toList B H):R1 E r (.region id ops dr) B H Q:=by
 cases dr with
 | true=>exact R1.JN hs h
 | false=>exact R1.GR h
end
theorem qW {p a b:Prop} (f:p) (hb:b) (e:p→Hd b→a:=by
  intro f hW;repeat' first|(refine R1.w ?_;constructor)|((first|refine R1.s_r (by kernel_rfl) fun K hK=>?_|refine R1.e_r (by kernel_rfl) fun K hK=>?_);simp only[qB,aC,Nat.reduceLT,Nat.reduceEqDiff,Nat.reduceLeDiff,reduceIte,Nat.reduceAdd,Nat.reduceSub,Nat.reduceMul,Int.reduceLT,Int.reduceLE,Int.reduceBEq,f];refine hK _ _ ?_;clear hK K)
  exact hW.out):a:=e f hb
theorem qV {a b:Prop} (hb:b) (e:Hd b→a:=by
  intro hW;repeat' first|(refine R1.w ?_;constructor)|((first|refine R1.s_r (by kernel_rfl) fun K hK=>?_|refine R1.e_r (by kernel_rfl) fun K hK=>?_);simp only[qB,aC,Nat.reduceLT,Nat.reduceEqDiff,Nat.reduceLeDiff,reduceIte,Nat.reduceAdd,Nat.reduceSub,Nat.reduceMul,Int.reduceLT,Int.reduceLE,Int.reduceBEq];refine hK _ _ ?_;clear hK K)
  exact hW.out):a:=e hb
theorem qG {p a b:Prop} (f:p) (hb:b) (e:p→Hd b→a:=by
  intro f hW;repeat refine R1.aE ?_
  (first|refine R1.s_r (by kernel_rfl) fun K hK=>?_|refine R1.e_r (by kernel_rfl) fun K hK=>?_)
  simp only[qB,aC,Nat.reduceLT,Nat.reduceEqDiff,Nat.reduceLeDiff,reduceIte,Nat.reduceAdd,Nat.reduceSub,Nat.reduceMul,Int.reduceLT,Int.reduceLE,Int.reduceBEq,f];revert K
  exact hW.out):a:=e f hb
theorem qH {p a b:Prop} (f:p) (hb:b) (e:p→Hd b→a:=by
  intro f hW;repeat refine R1.aE ?_
  (first|refine R1.Sq (by kernel_rfl) fun K hK=>?_|refine R1.TJ (by kernel_rfl) fun K hK=>?_)
  simp only[qB,aC,Nat.reduceLT,Nat.reduceEqDiff,Nat.reduceLeDiff,reduceIte,Nat.reduceAdd,Nat.reduceSub,Nat.reduceMul,Int.reduceLT,Int.reduceLE,Int.reduceBEq,f];revert K
  exact hW.out):a:=e f hb
theorem qS {p a b:Prop} (f:p) (hb:b) (e:p→Hd b→a:=by
  intro f hW;simp only[qB,aC,Nat.reduceLT,Nat.reduceEqDiff,Nat.reduceLeDiff,reduceIte,Nat.reduceAdd,Nat.reduceSub,Nat.reduceMul,Int.reduceLT,Int.reduceLE,Int.reduceBEq,f];exact hW.out):a:=e f hb
theorem qT {a b:Prop} (hb:b) (e:Hd b→a:=by
  intro hW;simp only[qB,aC,Nat.reduceLT,Nat.reduceEqDiff,Nat.reduceLeDiff,reduceIte,Nat.reduceAdd,Nat.reduceSub,Nat.reduceMul,Int.reduceLT,Int.reduceLE,Int.reduceBEq];exact hW.out):a:=e hb
theorem qZ {p a:Prop} (f:p) (e:p→a:=by
  intro f;simp only[qB,aC,Nat.reduceLT,Nat.reduceEqDiff,Nat.reduceLeDiff,reduceIte,Nat.reduceAdd,Nat.reduceSub,Nat.reduceMul,Int.reduceLT,Int.reduceLE,Int.reduceBEq,f]):a:=e f
theorem qU {a:Prop} (e:a:=by simp only[qB,aC,Nat.reduceLT,Nat.reduceEqDiff,Nat.reduceLeDiff,reduceIte,Nat.reduceAdd,Nat.reduceSub,Nat.reduceMul,Int.reduceLT,Int.reduceLE,Int.reduceBEq]):a:=e
theorem qE {a b:Prop} (hb:b) (e:Hd b→a:=by
  intro hW;repeat refine R1.aE ?_
  (first|refine R1.Lo fun Kx Ky hx hy=>?_|refine R1.Na fun Kx Ky hx hy=>?_)
  simp only[qB,aC,Nat.reduceLT,Nat.reduceEqDiff,Nat.reduceLeDiff,reduceIte,Nat.reduceAdd,Nat.reduceSub,Nat.reduceMul,Int.reduceLT,Int.reduceLE,Int.reduceBEq];revert Kx Ky
  exact hW.out):a:=e hb
theorem qX {p a b:Prop} (f:p) (hb:b) (e:p→Hd b→a:=by
  intro f hW;repeat refine R1.aE ?_
  (first|refine R1.Lo fun Kx Ky hx hy=>?_|refine R1.Na fun Kx Ky hx hy=>?_)
  simp only[qB,aC,Nat.reduceLT,Nat.reduceEqDiff,Nat.reduceLeDiff,reduceIte,Nat.reduceAdd,Nat.reduceSub,Nat.reduceMul,Int.reduceLT,Int.reduceLE,Int.reduceBEq,f]
  (first|refine hx ?_|refine hy ?_)
  exact hW.out):a:=e f hb
theorem qY {a b:Prop} (hb:b) (e:Hd b→a:=by
  intro hW;repeat refine R1.aE ?_
  (first|refine R1.Lo fun Kx Ky hx hy=>?_|refine R1.Na fun Kx Ky hx hy=>?_)
  simp only[qB,aC,Nat.reduceLT,Nat.reduceEqDiff,Nat.reduceLeDiff,reduceIte,Nat.reduceAdd,Nat.reduceSub,Nat.reduceMul,Int.reduceLT,Int.reduceLE,Int.reduceBEq]
  (first|refine hx ?_|refine hy ?_)
  exact hW.out):a:=e hb
theorem qp {p:Prop} (e:p:=by simp only[aa,Nat.reduceEqDiff,reduceIte]):p:=e
theorem qd {p q:Prop} (f:q) (e:q→p:=by intro f;simp only[aj,f]):p:=e f
theorem ixC {len i:Nat} (h:i<len):∀ (H:Hp) (id g off sz:Nat),cO H sz (.one (.o (.sl id g off len sz))) (.one (.i .i64 (i:Int)))=.val (.one (.o (.ptr id g (off+i*sz) sz))) H:=fun _ _ _ _ _=>dM h
theorem slH {len i:Nat} (h:i≤len):∀ (H:Hp) (id g off sz:Nat) (k:IntKind) (alt:ae),dk H sz (.one (.o (.sl id g off len sz))) none (some (.one (.i k (i:Int)))) alt=.val (.one (.o (.sl id g off i sz))) H:=fun _ _ _ _ _ _ _=>wG h
theorem slL {len i:Nat} (h:i≤len):∀ (H:Hp) (id g off sz:Nat) (k:IntKind) (alt:ae),dk H sz (.one (.o (.sl id g off len sz))) (some (.one (.i k (i:Int)))) none alt=.val (.one (.o (.sl id g (off+i*sz) (len - i) sz))) H:=fun _ _ _ _ _ _ _=>rq h
theorem iz (z:List AC):kh z 1=z:=wF
section
variable {E:Env} {r:Option Nat} {x y z:Code} {B:ab} {H:Hp} {Q:aA→ab→Hp→Prop}
theorem R1.s_h {id:Nat} {ops:Array Oper} {dr:Bool} (hs:(bif dr then lR false ops else true)=true) (h:∀ K:ab→Hp→Prop,Hd (∀ B H,R1 E r z B H Q→K B H)→SG false E K (ops.toList.map fun o=>gOf ops.toList o.guard) ops.toList B H):R1 E r (.seq (.region id ops dr) z) B H Q:=R1.s_r hs h
theorem R1.e_h {id:Nat} {ops:Array Oper} {dr:Bool} (hs:(bif dr then lR false ops else true)=true) (h:∀ K:ab→Hp→Prop,Hd (∀ B H,Q .normal B H→K B H)→SG false E K (ops.toList.map fun o=>gOf ops.toList o.guard) ops.toList B H):R1 E r (.region id ops dr) B H Q:=R1.e_r hs h
theorem R1.s_hs {id:Nat} {ops:Array Oper} (hs:lR true ops=true) (h:∀ K:ab→Hp→Prop,Hd (∀ B H,R1 E r z B H Q→K B H)→SG true E K (ops.toList.map fun o=>gOf ops.toList o.guard) ops.toList B H):R1 E r (.seq (.region id ops true) z) B H Q:=R1.Sq hs h
theorem R1.e_hs {id:Nat} {ops:Array Oper} (hs:lR true ops=true) (h:∀ K:ab→Hp→Prop,Hd (∀ B H,Q .normal B H→K B H)→SG true E K (ops.toList.map fun o=>gOf ops.toList o.guard) ops.toList B H):R1 E r (.region id ops true) B H Q:=R1.TJ hs h
theorem R1.UT {c:Operand} (h:∀ Kx Ky:Prop,Hd (R1 E r (.seq x z) B H Q→Kx)→Hd (R1 E r (.seq y z) B H Q→Ky)→oT (ev B.tm c) fun b=>if b=true then Kx else Ky):R1 E r (.seq (.cond c x y) z) B H Q:=R1.Lo h
theorem R1.VS {c:Operand} (h:∀ Kx Ky:Prop,Hd (R1 E r x B H Q→Kx)→Hd (R1 E r y B H Q→Ky)→oT (ev B.tm c) fun b=>if b=true then Kx else Ky):R1 E r (.cond c x y) B H Q:=R1.Na h
theorem R1.cy {id:Nat} (h:∀ K:aA→ab→Hp→Prop,Hd (∀ B H,R1 E r z B H Q→K .normal B H)→Hd (∀ B H,R1 E r z B H Q→K (.exit id) B H)→Hd (∀ i B H,i≠id→Q (.exit i) B H→K (.exit i) B H)→Hd (∀ B H,Q .ret B H→K .ret B H)→R1 E r x B H K):R1 E r (.seq (.block id x) z) B H Q:=R1.aG h
theorem R1.dZ {id:Nat} (h:∀ K:aA→ab→Hp→Prop,Hd (∀ B H,Q .normal B H→K .normal B H)→Hd (∀ B H,Q .normal B H→K (.exit id) B H)→Hd (∀ i B H,i≠id→Q (.exit i) B H→K (.exit i) B H)→Hd (∀ B H,Q .ret B H→K .ret B H)→R1 E r x B H K):R1 E r (.block id x) B H Q:=R1.qu h
theorem Hd.ap {K:ab→Hp→Prop} {Z:ab→Hp→Prop} (h:Hd (∀ B H,Z B H→K B H)) {B:ab} {H:Hp} (k:Z B H):K B H:=h _ _ k
end
theorem zW {p a b:Prop} (f:p) (hb:b) (e:p→Hd b→a:=by
  intro f hW;repeat' first|(refine R1.w ?_;constructor)|((first|refine R1.s_h (by kernel_rfl) fun K hK=>?_|refine R1.e_h (by kernel_rfl) fun K hK=>?_);simp only[qB,aC,Nat.reduceLT,Nat.reduceEqDiff,Nat.reduceLeDiff,reduceIte,Nat.reduceAdd,Nat.reduceSub,Nat.reduceMul,Int.reduceLT,Int.reduceLE,Int.reduceBEq, *];refine hK.out _ _ ?_;clear hK K)|((first|refine R1.UT fun Kx Ky hx hy=>?_|refine R1.VS fun Kx Ky hx hy=>?_);simp only[qB,aC,Nat.reduceLT,Nat.reduceEqDiff,Nat.reduceLeDiff,reduceIte,Nat.reduceAdd,Nat.reduceSub,Nat.reduceMul,Int.reduceLT,Int.reduceLE,Int.reduceBEq, *];(first|refine hx.out ?_|refine hy.out ?_);clear hx hy Kx Ky)
  exact hW.out):a:=e f hb
theorem zG {p a b:Prop} (f:p) (hb:b) (e:p→Hd b→a:=by
  intro f hW;repeat refine R1.aE ?_
  (first|refine R1.s_h (by kernel_rfl) fun K hK=>?_|refine R1.e_h (by kernel_rfl) fun K hK=>?_)
  simp only[qB,aC,Nat.reduceLT,Nat.reduceEqDiff,Nat.reduceLeDiff,reduceIte,Nat.reduceAdd,Nat.reduceSub,Nat.reduceMul,Int.reduceLT,Int.reduceLE,Int.reduceBEq, *];revert K
  exact hW.out):a:=e f hb
theorem zH {p a b:Prop} (f:p) (hb:b) (e:p→Hd b→a:=by
  intro f hW;repeat refine R1.aE ?_
  (first|refine R1.s_hs (by kernel_rfl) fun K hK=>?_|refine R1.e_hs (by kernel_rfl) fun K hK=>?_)
  simp only[qB,aC,Nat.reduceLT,Nat.reduceEqDiff,Nat.reduceLeDiff,reduceIte,Nat.reduceAdd,Nat.reduceSub,Nat.reduceMul,Int.reduceLT,Int.reduceLE,Int.reduceBEq, *];revert K
  exact hW.out):a:=e f hb
theorem zS {p a b:Prop} (f:p) (hb:b) (e:p→Hd b→a:=by
  intro f hW;simp only[qB,aC,Nat.reduceLT,Nat.reduceEqDiff,Nat.reduceLeDiff,reduceIte,Nat.reduceAdd,Nat.reduceSub,Nat.reduceMul,Int.reduceLT,Int.reduceLE,Int.reduceBEq, *];exact hW.out):a:=e f hb
theorem zK {p a b:Prop} (f:p) (hb:b) (e:p→Hd b→a:=by
  intro f hW;try simp only[qB,aC,Nat.reduceLT,Nat.reduceEqDiff,Nat.reduceLeDiff,reduceIte,Nat.reduceAdd,Nat.reduceSub,Nat.reduceMul,Int.reduceLT,Int.reduceLE,Int.reduceBEq, *]
  refine Hd.ap (Z:=?_) ?_ ?_;rotate_left
  ·assumption
  repeat' first|(refine R1.w ?_;constructor)|((first|refine R1.s_h (by kernel_rfl) fun K hK=>?_|refine R1.e_h (by kernel_rfl) fun K hK=>?_);simp only[qB,aC,Nat.reduceLT,Nat.reduceEqDiff,Nat.reduceLeDiff,reduceIte,Nat.reduceAdd,Nat.reduceSub,Nat.reduceMul,Int.reduceLT,Int.reduceLE,Int.reduceBEq, *];refine hK.out _ _ ?_;clear hK K)|((first|refine R1.UT fun Kx Ky hx hy=>?_|refine R1.VS fun Kx Ky hx hy=>?_);simp only[qB,aC,Nat.reduceLT,Nat.reduceEqDiff,Nat.reduceLeDiff,reduceIte,Nat.reduceAdd,Nat.reduceSub,Nat.reduceMul,Int.reduceLT,Int.reduceLE,Int.reduceBEq, *];(first|refine hx.out ?_|refine hy.out ?_);clear hx hy Kx Ky)
  exact hW.out):a:=e f hb
theorem zI {p a b c:Prop} (f:p) (hb:b) (hc:c) (e:p→Hd b→Hd c→a:=by
  intro f hW hV;repeat refine R1.aE ?_
  (first|refine R1.UT fun Kx Ky hx hy=>?_|refine R1.VS fun Kx Ky hx hy=>?_)
  simp only[qB,aC,Nat.reduceLT,Nat.reduceEqDiff,Nat.reduceLeDiff,reduceIte,Nat.reduceAdd,Nat.reduceSub,Nat.reduceMul,Int.reduceLT,Int.reduceLE,Int.reduceBEq, *];refine cY ?_ ?_
  ·refine fun hq=>hx.out ?_;revert hq
   exact hW.out
  refine fun hq=>hy.out ?_;revert hq
  exact hV.out):a:=e f hb hc
theorem zL {p:Prop} (e:p:=by repeat' (first|(simp only[aa,Nat.reduceEqDiff,reduceIte,aw,aj, *];first|done|rfl)|refine ⟨?_,?_⟩)):p:=e
theorem qe {p:Prop} (e:p:=by first|(simp only[aj, *];done)|rfl):p:=e
theorem arQ:(∀ (P:Program) (tm:PT AV) (H:Hp) (d:Option Tmp) (ty:TypeId) (pos:String) (af:Array Edge) (g:Option (Nat×Bool)) (t c:TypeId) (x y:Operand),aq P tm H ⟨d,.binOp .quo t x y c,ty,pos,af,g⟩=rA (fun _ b=>b≠0) (fun k a b=>.i k (k.wrap (a.tdiv b))) H (bH P tm H ⟨d,.binOp .quo t x y c,ty,pos,af,g⟩) (ev tm x) (ev tm y)) ∧
  (∀ (P:Program) (tm:PT AV) (H:Hp) (d:Option Tmp) (ty:TypeId) (pos:String) (af:Array Edge) (g:Option (Nat×Bool)) (t c:TypeId) (x y:Operand),aq P tm H ⟨d,.binOp .rem t x y c,ty,pos,af,g⟩=rA (fun _ b=>b≠0) (fun k a b=>.i k (a.tmod b)) H (bH P tm H ⟨d,.binOp .rem t x y c,ty,pos,af,g⟩) (ev tm x) (ev tm y)) ∧
  (∀ (H:Hp) (kd:Nat) (k k':IntKind) (a b:Int) (alt:ae),bt H kd .quo (eJ .quo) (.one (.i k a)) (.one (.i k' b)) alt=alt)∧(∀ (H:Hp) (kd:Nat) (k k':IntKind) (a b:Int) (alt:ae),bt H kd .rem (eJ .rem) (.one (.i k a)) (.one (.i k' b)) alt=alt):=
 ⟨fun _ _ _ _ _ _ _ _ _ _ _ _=>Pk,fun _ _ _ _ _ _ _ _ _ _ _ _=>Oa,fun _ _ _ _ _ _ _=>Xo,fun _ _ _ _ _ _ _=>XF⟩
theorem JF {b:Int} (h:b≠0):∀ (H:Hp) (alt:ae) (k:IntKind) (a:Int),rA (fun _ b=>b≠0) (fun k a b=>.i k (k.wrap (a.tdiv b))) H alt (.one (.i k a)) (.one (.i k b))=.val (.one (.i k (k.wrap (a.tdiv b)))) H:=fun _ _ _ _=>Jk h
end Go.Eng
end

/- A part of the proof: EngOwn, EngIter, EngMap, EngOpen, EngBun, EngOws, EngRow, EngDrw, EngOpS, EngPlain, EngWk, EngStar. No conditions. -/
import Derived.Test.YtnhbkodnmkojpaaGreatSAh
import Derived.Deep.Slices
import Derived.SizedLaws
import Derived.KernelRfl
set_option maxRecDepth 100000
set_option maxHeartbeats 64000000
set_option linter.unusedVariables false
set_option linter.unusedSimpArgs false
noncomputable section
namespace Go.Eng
open Go
def eU (H:Hp) (v:AC) (e:TypeId) (sz n:Nat) (cells:List AC) (r:Option Nat):Prop:=
 (v=.o .nilS∧n=0∧cells=[]∧r=none)∨∃ id lo gen,r=some id∧v=.o (.sl id gen 0 n sz)∧H.get id=some (.arr cells e lo gen)∧lo≤gen∧cells.length=n*sz∧id<H.nx
theorem eU.fr {H H':Hp} {v:AC} {e:TypeId} {sz n:Nat} {cells:List AC} {r:Option Nat} {X:Nat→Prop} (h:eU H v e sz n cells r) (hf:Fr X H H') (hx:∀ i,r=some i→¬X i):eU H' v e sz n cells r:=by
 rcases h with h|⟨id,lo,gen,h1,h2,h3,h4,h5,h6⟩
 ·exact .inl h
 exact .inr ⟨id,lo,gen,h1,h2,(hf.get id h6 (hx id h1)).trans h3,h4,h5,zA0 h6 hf.nx⟩
theorem eU.lt {H:Hp} {v:AC} {e:TypeId} {sz n:Nat} {cells:List AC} {r:Option Nat} (h:eU H v e sz n cells r):ltV (.one v) H.nx:=by
 rcases h with ⟨rfl,_⟩|⟨id,lo,gen,_,rfl,_,_,_,h6⟩
 ·rw[uf];trivial
 rw[Bf];exact h6
theorem eU.slc {H:Hp} {v:AC} {e:TypeId} {sz n:Nat} {cells:List AC} {r:Option Nat} (h:eU H v e sz n cells r):SlC H v sz n cells:=by
 rcases h with ⟨rfl,rfl,rfl,_⟩|⟨id,lo,gen,_,rfl,h3,h4,h5,h6⟩
 ·exact ⟨by simp,.inl ⟨rfl,rfl⟩⟩
 refine ⟨h5,.inr ⟨id,gen,0,rfl,h6,cells,by rw[h3];exact cy h4 (zA1 _),by omega,?_⟩⟩;rw[List.drop_zero,List.take_of_length_le (by omega)]
theorem kQ {H:Hp} {id g off len sz:Nat} {cells:List AC} (h:rowOf (H.get id) g=some cells) (hl:off+len*sz≤cells.length):jf H sz (.one (.o (.sl id g off len sz)))=some (len,(cells.drop off).take (len*sz)):=by
 have hr:eT H id g off (Nat.mul len sz) (Nat.mul len sz)=some ((cells.drop off).take (len*sz)):=by
  unfold eT;rw[Kq,h];simp only[Option.bind_some];rw[zB0 ⟨zA1 _,hl⟩];rfl
 show (match Nat.beq sz sz,eT H id g off (Nat.mul len sz) (Nat.mul len sz) with|true,some c=>some (len,c)|_,_=>none)=_;rw[Nat.beq_refl,hr]
theorem oT {P:Program} {H:Hp} {t e:TypeId} {sz by_ n k:Nat} {z:Value} {v:AC} {x:AV} {cells c:List AC} {r:Option Nat} (he:bm P t=some (e,sz)) (hb:cB P e=some by_) (hz:aB P e=some z) (L1:(ofValue z).cells.length=sz) (G1:sz≠0)
  (ho:eU H v e sz n cells r) (hs:jf H sz x=some (k,c)) (hk:k≠0) (hc:c.length=k*sz) (h1:n+k≤140737488355328) (h2:(n+k)*by_≤140737488355328):
  ∃ v' H' r',aV P H t (.one v) x=.val (.one v') H'∧eU H' v' e sz (n+k) (cells++c) (some r')∧Fr (fun i=>r=some i) H H'∧(r=some r'∨r=none∧r'=H.nx):=by
 have e1:Nat.beq sz 0=false:=by
  cases h:Nat.beq sz 0 with
  | false=>rfl
  | true=>exact absurd (zA3 h) G1
 have e2:Nat.beq k 0=false:=by
  cases h:Nat.beq k 0 with
  | false=>rfl
  | true=>exact absurd (zA3 h) hk
 have e3:both (!Nat.beq sz 0) (Nat.beq (bw (ofValue z).cells) sz)=true:=by rw[e1,bj,L1,Nat.beq_refl];rfl
 have step:aV P H t (.one v) x=dn H e sz by_ k c (.one v):=by
  unfold aV;simp only[he,hb,hz,nd,e3,aH,hs]
 rcases ho with ⟨rfl,rfl,rfl,rfl⟩|⟨id,lo,gen,rfl,rfl,h3,h4,h5,h6⟩
 ·refine ⟨.o (.sl H.nx 0 0 k sz),H.new (.arr c e 0 0),H.nx,?_,.inr ⟨H.nx,0,0,rfl,by rw[Nat.zero_add],by rw[aG rfl,List.nil_append],zA1 _,by rw[List.nil_append,Nat.zero_add,hc],zA6 _⟩,(Fr.refl _).new _,.inr ⟨rfl,rfl⟩⟩;rw[step];show Eng.ifE (Nat.beq k 0) _ (aH (both (Nat.ble k 140737488355328) (Nat.ble (Nat.mul k by_) 140737488355328)) _ _)=_;rw[Nat.zero_add] at h1 h2;have f2:Nat.ble (Nat.mul k by_) 140737488355328=true:=zA5 h2;rw[e2,zA5 h1,f2];rfl
 refine ⟨.o (.sl id (gen+1) 0 (n+k) sz),H.mod id (.arr (cells++c) e lo (gen+1)),id,?_,.inr ⟨id,lo,gen+1,rfl,rfl,aj rfl,zA7 h4,by rw[List.length_append,h5,hc,Nat.add_mul],h6⟩,(Fr.refl _).mod _ (.inr rfl),.inl rfl⟩;rw[step];show mE (H.get id) _ _=_;rw[h3];show aH (both (Nat.beq sz sz) (both (Nat.beq e e) (both (Nat.ble lo gen) (both (Nat.ble gen gen) (both (Nat.ble (Nat.add 0 (Nat.mul n sz)) (bw cells)) (both (Nat.ble (Nat.add n k) 140737488355328) (Nat.ble (Nat.mul (Nat.add n k) by_) 140737488355328))))))) _
  (Eng.ifE (Nat.beq k 0) _ (Eng.ifE (both (Nat.beq gen gen) (both (Nat.beq 0 0) (Nat.beq (Nat.mul n sz) (bw cells)))) _ _))=_
 have g5:Nat.ble (Nat.add 0 (Nat.mul n sz)) (bw cells)=true:=by
  rw[bj,h5];exact zA5 (by show 0+n*sz≤n*sz;omega)
 have g6:Nat.ble (Nat.add n k) 140737488355328=true:=zA5 h1;have g7:Nat.ble (Nat.mul (Nat.add n k) by_) 140737488355328=true:=zA5 h2;have g8:Nat.beq (Nat.mul n sz) (bw cells)=true:=by
  rw[bj,h5];exact Nat.beq_refl (n*sz)
 rw[Nat.beq_refl,Nat.beq_refl,Nat.beq_refl,zA5 h4,zA5 (zA1 gen),g5,g6,g7,g8,e2,jM];rfl
theorem R1.uq {E:Env} {r:Option Nat} {A:ab} {H:Hp} {Q:ax→ab→Hp→Prop} {id:Nat} {c:Code} (h:∀ K:ax→ab→Hp→Prop,(∀ A H,Q .normal A H→K .normal A H)→(∀ A H,Q .normal A H→K (.exit id) A H)→(∀ i A H,i≠id→Q (.exit i) A H→K (.exit i) A H)→(∀ A H,Q .ret A H→K .ret A H)→R1 E r c A H K):R1 E r (.block id c) A H Q:=by
 refine R1.block (h _ (fun _ _ h=>h) (fun A H h=>?_) (fun i A H hi h=>?_) fun _ _ h=>h)
 ·show if id=id then Q .normal A H else Q (.exit id) A H;rw[zB0 rfl];exact h
 show if i=id then Q .normal A H else Q (.exit i) A H;rw[zB1 hi];exact h
structure Sm (L:Nat) (H H':Hp):Prop where
 nx:H.nx≤H'.nx
 get:∀ i,i<H.nx→i≠L→H'.get i=H.get i
theorem Sm.refl {L:Nat} (H:Hp):Sm L H H:=⟨zA1 _,fun _ _ _=>rfl⟩
theorem Sm.same {L:Nat} {H H':Hp} (ht:H'.t=H.t) (hn:H'.nx=H.nx):Sm L H H':=⟨Nat.le_of_eq hn.symm,fun i _ _=>by show H'.t.get i=H.t.get i;rw[ht]⟩
theorem Sm.trans {L:Nat} {H H1 H2:Hp} (h:Sm L H H1) (k:Sm L H1 H2):Sm L H H2:=
 ⟨zA2 h.nx k.nx,fun i hi hn=>(k.get i (zA0 hi h.nx) hn).trans (h.get i hi hn)⟩
theorem Sm.mod {L:Nat} (H:Hp) (o:aK):Sm L H (H.mod L o):=⟨zA1 _,fun i _ hn=>az hn⟩
def YX (E:Env) (n:ad) (H:Hp) (X:Nat→Prop) (Q:AV→Hp→Prop):Prop:=
 ∀ lg,N1 E ⟨H.t,H.nx,lg⟩ n fun v h'=>Fr X ⟨H.t,H.nx,lg⟩ h'∧∀ lg',Q v ⟨h'.t,h'.nx,lg'⟩
section
variable {E:Env} {H:Hp} {X:Nat→Prop} {Q:AV→Hp→Prop}
theorem WE.conR {A:ab} {d:Option Tmp} {next:ab→Hp→Prop} {id:Nat} {args:List AV} (h:YX E (.round id args) H X Q) (hn:∀ v H',Fr X H H'→Q v H'→next (bq A d v) H'):WE false E A d next H (.round id args):=fun lg=>
 (h lg).mono fun _ _ ⟨h1,h2⟩=>⟨fun h=>(by cases h),fun lg' hx=>hn _ _ (hx X h1) (h2 lg')⟩
theorem zU {P:Program} {id:Nat} {args:List AV}:lG P (.one (.o (.yl id))) args=.round id args:=rfl
end
def dK (tm:PT AV) (nt:Nat) (ps:List Tmp) (as bo:Code) (d:Nat) (st:LoopState) (pe:Option Code):aK:=.oth (.loop st pe tm nt ps as bo d)
def JT (tm:PT AV) (nt:Nat) (ps:List Tmp) (as bo:Code) (d:Nat):ax→aK
 | .normal=>dK tm nt ps as bo d .ready none
 | .ret=>dK tm nt ps as bo d .done (some .ret)
 | .exit k=>dK tm nt ps as bo d .done (some (.exit k))
def JK:ax→Bool
 | .normal=>true
 | _=>false
theorem N1.round {E:Env} {H:Hp} {L:Nat} {args:List AV} {Q:AV→Hp→Prop} {tm:PT AV} {nt:Nat} {ps:List Tmp} {as bo:Code} {d:Nat}
  (hg:H.get L=some (dK tm nt ps as bo d .ready none)) (hl:args.length=ps.length) (hp:(ps.all fun p=>Nat.blt p nt)=true)
  (h:R1 E (some L) as ⟨eM ps args tm,nt,[]⟩ H fun e A1 H1=>e=.normal∧H1.get L=some (dK tm nt ps as bo d .ready none) ∧
   R1 E (some L) bo A1 (H1.mod L (dK tm nt ps as bo d .busy none)) fun e A2 H2=>A2.dfr=[]∧H2.get L=some (dK tm nt ps as bo d .busy none)∧Q (.one (.b (JK e))) (H2.mod L (JT tm nt ps as bo d e))):
  N1 E H (.round L args) Q:=by
 obtain ⟨n,e,A1,H1,h1,rfl,h2,k,e2,A2,H2,h3,h4,h5,h6⟩:=h;refine ⟨max n k+1,.one (.b (JK e2)),H2.mod L (JT tm nt ps as bo d e2),?_,h6⟩;have a1:=dq (cO E (Nat.le_max_left n k)) as (some L) _ _ _ h1;have a2:=dq (cO E (Nat.le_max_right n k)) bo (some L) _ _ _ h3;show fL (eval E (max n k+1)) L args H=_;unfold fL;rw[hg];have hb:both (Nat.beq (oA args) (oA ps)) (ps.all fun p=>Nat.blt p nt)=true:=by
  rw[hp];have:Nat.beq (oA args) (oA ps)=true:=by rw[show oA args=oA ps from hl];exact Nat.beq_refl _
  rw[this];rfl
 show Eng.ifE (both (Nat.beq (oA args) (oA ps)) (ps.all fun p=>Nat.blt p nt)) (((eval E (max n k+1)).code (some L) as ⟨eM ps args tm,nt,[]⟩ H).bind (eh (eval E (max n k+1)) L bo)) _=_;rw[hb];have c1:(eval E (max n k+1)).code (some L) as ⟨eM ps args tm,nt,[]⟩ H=.ok [(.normal,A1,H1)]:=a1;show ((eval E (max n k+1)).code (some L) as ⟨eM ps args tm,nt,[]⟩ H).bind (eh (eval E (max n k+1)) L bo)=_;rw[c1];show eh (eval E (max n k+1)) L bo (.normal,A1,H1)=_;unfold eh;simp only[h2];show ((eval E (max n k+1)).code (some L) bo A1 (H1.mod L (dK tm nt ps as bo d .busy none))).bind (jr L)=_;have c2:(eval E (max n k+1)).code (some L) bo A1 (H1.mod L (dK tm nt ps as bo d .busy none))=.ok [(e2,A2,H2)]:=a2;rw[c2];show jr L (e2,A2,H2)=_;unfold jr;simp only[h4,h5];cases e2 <;> rfl
structure YB (E:Env) (L:Nat) (n:Nat) (ar:Nat→List AV) (D:Nat→Prop) (σ:Type) where
 J:Nat→σ→Hp→Prop
 F:σ→Hp→Prop
 fp:σ→Nat→Prop
 hJ:∀ {i s H H'},J i s H→H.nx≤H'.nx→(∀ k,k<H.nx→H'.get k=H.get k)→J i s H'
 hF:∀ {s H H'},F s H→H.nx≤H'.nx→(∀ k,k<H.nx→H'.get k=H.get k)→F s H'
 hl:∀ {i s H k},J i s H→fp s k→k<H.nx∧¬D k
 pass:∀ i s H,i<n→J i s H→YX E (.round L (ar i)) H (fp s) fun v H'=>∃ b s',v=.one (.b b)∧(b=true→J (i+1) s' H')∧(b=false→F s' H')∧∀ k,fp s' k→fp s k∨H.nx≤k
def ItC (E:Env) (g:FuncId) (caps:List (Nat×Nat×Nat×Nat)) (n:Nat) (ar:Nat→List AV) (D:Nat→Prop) (H0:Hp):Prop:=
 ∀ (σ:Type) (L:Nat) (B:YB E L n ar D σ) (s:σ) (H:Hp),H0.nx≤H.nx→(∀ k,k<H0.nx→H.get k=H0.get k)→B.J 0 s H →
  Con E g (.one (.o (.yl L))::dX caps) H (B.fp s) fun _ H'=>∃ s',(B.J n s' H'∨B.F s' H')∧∀ k,B.fp s' k→B.fp s k∨H.nx≤k
theorem C1.XB {E:Env} {f:FuncId} {args:List AV} {H:Hp} {X:Nat→Prop} {Q:AV→Hp→Prop} (hp:E.fE f args=none) (h:Con E f args H X Q):C1 E f args H fun v H'=>Fr X H H'∧Q v H':=by
 obtain ⟨n,v,H',h1,h2,h3⟩:=h H.log;have u7:mZ E (eval E n) f args H=.ok [(v,H')]:=h1;unfold mZ at u7;rw[hp] at u7;exact ⟨n,v,H',u7,h2,h3 H'.log⟩
theorem R1.Yb {E:Env} {A:ab} {H:Hp} {Q:ax→ab→Hp→Prop} {f:Operand} {params:Array Tmp} {as bo:Code} {g:FuncId} {caps:List (Nat×Nat×Nat×Nat)}
  (hf:ev A.tm f=.one (.o (.clo g caps))) (hb:al E.P g=true)
  (h:C1 E g (.one (.o (.yl (H.nx+1)))::dX caps) ((H.new (.oth (.dfr true))).new (dK A.tm A.nt params.toList as bo H.nx .ready none)) fun _ H3=>
   ∃ e,H3.get (H.nx+1)=some (JT A.tm A.nt params.toList as bo H.nx e)∧∀ o,Q e ⟨A.tm,A.nt,H.nx::A.dfr⟩ (H3.mod (H.nx+1) o)):
  R1 E none (.rangeFunc f params as bo) A H Q:=by
 obtain ⟨n,v,H3,h1,e,h2,h3⟩:=h;have key:∀ o,eo (H.nx+1) ⟨A.tm,A.nt,H.nx::A.dfr⟩ (v,H3)=.ok [(e,⟨A.tm,A.nt,H.nx::A.dfr⟩,H3.mod (H.nx+1) o)]→R1 E none (.rangeFunc f params as bo) A H Q:=fun o ho=>by
  refine ⟨n,e,⟨A.tm,A.nt,H.nx::A.dfr⟩,H3.mod (H.nx+1) o,?_,h3 o⟩;show gI E (eval E n) none (opF f) params.toList as bo A H=_;unfold gI;show (match (opF f).ev A.tm with
   | .one (.o (.clo g caps))=>Eng.ifE (al E.P g) (((eval E n).call g (.one (.o (.yl (H.nx+1)))::dX caps) ((H.new (.oth (.dfr true))).new (dK A.tm A.nt params.toList as bo H.nx .ready none))).bind (eo (H.nx+1) ⟨A.tm,A.nt,H.nx::A.dfr⟩)) (.bad "rangeFunc - no body")
   | _=>.bad "rangeFunc - no function")=_
  have v_:(opF f).ev A.tm=.one (.o (.clo g caps)):=hf;rw[v_];show Eng.ifE (al E.P g) _ _=_;rw[hb];show ((eval E n).call g (.one (.o (.yl (H.nx+1)))::dX caps) ((H.new (.oth (.dfr true))).new (dK A.tm A.nt params.toList as bo H.nx .ready none))).bind (eo (H.nx+1) ⟨A.tm,A.nt,H.nx::A.dfr⟩)=_;rw[h1];exact ho
 cases e with
 | normal=>exact key _ (by unfold eo;simp only[h2,JT,dK];rfl)
 | ret=>exact key _ (by unfold eo;simp only[h2,JT,dK];rfl)
 | exit i=>exact key _ (by unfold eo;simp only[h2,JT,dK];rfl)
theorem R1.range {E:Env} {A:ab} {H:Hp} {Q:ax→ab→Hp→Prop} {f:Operand} {params:Array Tmp} {as bo:Code} {g:FuncId} {caps:List (Nat×Nat×Nat×Nat)} {n:Nat} {ar:Nat→List AV} {D:Nat→Prop} {σ:Type}
  (hf:ev A.tm f=.one (.o (.clo g caps))) (hb:al E.P g=true) (hpr:∀ args,E.fE g args=none) (Z2:ItC E g caps n ar D H) (hD:∀ k,D k→k<H.nx)
  (S6:(params.toList.all fun p=>Nat.blt p A.nt)=true) (p7:∀ i,i<n→(ar i).length=params.toList.length)
  (J:Nat→σ→Hp→Prop) (F:ax→σ→Hp→Prop) (fp:σ→Nat→Prop)
  (hJ:∀ {i s H1 H2},J i s H1→Sm (H.nx+1) H1 H2→J i s H2) (hF:∀ {e s H1 H2},F e s H1→Sm (H.nx+1) H1 H2→F e s H2)
  (hl:∀ {i s H1 k},J i s H1→fp s k→k<H1.nx∧k≠H.nx∧k≠H.nx+1∧¬D k)
  (s0:σ) (h0:∀ H1,Gr H H1→H1.nx=H.nx+2→J 0 s0 H1)
  (body:∀ i s H1,i<n→J i s H1→H.nx+2≤H1.nx→R1 E (some (H.nx+1)) as ⟨eM params.toList (ar i) A.tm,A.nt,[]⟩ H1 fun e A1 H2=>e=.normal∧Fr (fp s) H1 H2 ∧
   ∀ H3,H3.nx=H2.nx→Sm (H.nx+1) H2 H3→R1 E (some (H.nx+1)) bo A1 H3 fun e A2 H4=>A2.dfr=[]∧Fr (fun k=>fp s k∨H1.nx≤k) H3 H4∧∃ s',(e=.normal→J (i+1) s' H4)∧(e≠.normal→F e s' H4)∧∀ k,fp s' k→fp s k∨H1.nx≤k)
  (hn:∀ s' H5,J n s' H5→H.nx+2≤H5.nx→H5.get H.nx=some (.oth (.dfr true))→Fr (fp s0) H H5→(∀ k,fp s' k→fp s0 k∨H.nx≤k)→Q .normal ⟨A.tm,A.nt,H.nx::A.dfr⟩ H5)
  (hx:∀ e s' H5,e≠.normal→F e s' H5→H.nx+2≤H5.nx→H5.get H.nx=some (.oth (.dfr true))→Fr (fp s0) H H5→(∀ k,fp s' k→fp s0 k∨H.nx≤k)→Q e ⟨A.tm,A.nt,H.nx::A.dfr⟩ H5):
  R1 E none (.rangeFunc f params as bo) A H Q:=by
 have gL:Gr H ((H.new (.oth (.dfr true))).new (dK A.tm A.nt params.toList as bo H.nx .ready none)):=((Fr.refl _).new _).new _;have nL:((H.new (.oth (.dfr true))).new (dK A.tm A.nt params.toList as bo H.nx .ready none)).nx=H.nx+2:=rfl;have rL:((H.new (.oth (.dfr true))).new (dK A.tm A.nt params.toList as bo H.nx .ready none)).get (H.nx+1)=some (dK A.tm A.nt params.toList as bo H.nx .ready none):=aG rfl;have rd:((H.new (.oth (.dfr true))).new (dK A.tm A.nt params.toList as bo H.nx .ready none)).get H.nx=some (.oth (.dfr true)):=by
  rw[aZ (by rw[gN];omega),aG rfl]
 let B:YB E (H.nx+1) n ar D (ax×σ):=
  { J:=fun i s H1=>J i s.2 H1∧H1.get (H.nx+1)=some (dK A.tm A.nt params.toList as bo H.nx .ready none)∧H1.get H.nx=some (.oth (.dfr true))∧H.nx+2≤H1.nx
    F:=fun s H1=>s.1≠.normal∧F s.1 s.2 H1∧H1.get (H.nx+1)=some (JT A.tm A.nt params.toList as bo H.nx s.1)∧H1.get H.nx=some (.oth (.dfr true))∧H.nx+2≤H1.nx
    fp:=fun s k=>fp s.2 k∨k=H.nx+1
    hJ:=fun {i s H1 H2} ⟨h1,h2,h3,h4⟩ hn hg=>⟨hJ h1 ⟨hn,fun k hk _=>hg k hk⟩,by rw[hg _ (by omega)];exact h2,by rw[hg _ (by omega)];exact h3,zA2 h4 hn⟩
    hF:=fun {s H1 H2} ⟨h0,h1,h2,h3,h4⟩ hn hg=>⟨h0,hF h1 ⟨hn,fun k hk _=>hg k hk⟩,by rw[hg _ (by omega)];exact h2,by rw[hg _ (by omega)];exact h3,zA2 h4 hn⟩
    hl:=fun {i s H1 k} ⟨h1,h2,h3,h4⟩ hk=>by
     rcases hk with hk|rfl
     ·exact ⟨(hl h1 hk).1,(hl h1 hk).2.2.2⟩
     exact ⟨by omega,fun h=>by have:=hD _ h;omega⟩
    pass:=fun i s H1 hi ⟨h1,h2,h3,h4⟩ lg=>by
     have s1:Sm (H.nx+1) H1 ⟨H1.t,H1.nx,lg⟩:=Sm.same rfl rfl;have j1:=hJ h1 s1;have g2:(⟨H1.t,H1.nx,lg⟩:Hp).get (H.nx+1)=some (dK A.tm A.nt params.toList as bo H.nx .ready none):=h2;have g3:(⟨H1.t,H1.nx,lg⟩:Hp).get H.nx=some (.oth (.dfr true)):=h3;have n4:H.nx+2≤(⟨H1.t,H1.nx,lg⟩:Hp).nx:=h4;have e0:H1.nx=(⟨H1.t,H1.nx,lg⟩:Hp).nx:=rfl;rw[e0];generalize (⟨H1.t,H1.nx,lg⟩:Hp)=H1 at j1 g2 g3 n4 ⊢;have nfL:¬fp s.2 (H.nx+1):=fun h=>(hl j1 h).2.2.1 rfl;have nfd:¬fp s.2 H.nx:=fun h=>(hl j1 h).2.1 rfl;refine N1.round g2 (p7 i hi) S6 ((body i s.2 H1 hi j1 n4).mono fun e A1 Ha ⟨he,hfa,Y6⟩=>⟨he,(hfa.get _ (by omega) nfL).trans g2,?_⟩);have na:=hfa.nx;refine (Y6 (Ha.mod (H.nx+1) (dK A.tm A.nt params.toList as bo H.nx .busy none)) rfl (Sm.mod _ _)).mono fun e2 A2 H4 ⟨C0,X7,s',hj,hf,I6⟩=>?_;have n5:H1.nx≤H4.nx:=zA2 na X7.nx;have gB:H4.get (H.nx+1)=some (dK A.tm A.nt params.toList as bo H.nx .busy none):=by
      rw[X7.get _ (by rw[mb];omega) (fun h=>h.elim nfL fun h=>by omega),aj rfl]
     have gD:H4.get H.nx=some (.oth (.dfr true)):=by
      rw[X7.get _ (by rw[mb];omega) (fun h=>h.elim nfd fun h=>by omega),az (by omega),hfa.get _ (by omega) nfd,g3]
     refine ⟨C0,gB,?_,fun lg'=>⟨JK e2,(e2,s'),rfl,fun hb=>?_,fun hb=>?_,fun k hk=>?_⟩⟩
     ·have f1:Fr (fun k=>fp s.2 k∨k=H.nx+1) H1 (Ha.mod (H.nx+1) (dK A.tm A.nt params.toList as bo H.nx .busy none)):=(hfa.mono fun _ h=>.inl h).mod _ (.inr (.inr rfl));exact (f1.then X7 fun k hk=>hk.elim (fun h=>.inr (.inl h)) fun h=>.inl h).mod _ (.inr (.inr rfl))
     ·have he:e2=.normal:=by cases e2 <;> first|rfl|cases hb
      subst he;exact ⟨hJ (hj rfl) ((Sm.mod _ _).trans (Sm.same rfl rfl)),aj rfl,by show (H4.mod _ _).get _=_;rw[az (by omega)];exact gD,by show H.nx+2≤H4.nx;omega⟩
     ·have he:e2≠.normal:=fun h=>by subst h;cases hb
      exact ⟨he,hF (hf he) ((Sm.mod _ _).trans (Sm.same rfl rfl)),aj rfl,by show (H4.mod _ _).get _=_;rw[az (by omega)];exact gD,by show H.nx+2≤H4.nx;omega⟩
     rcases hk with hk|hk
     ·rcases I6 k hk with h|h
      ·exact .inl (.inl h)
      exact .inr h
     exact .inl (.inr hk) }
 refine R1.Yb hf hb ?_;have P6:=Z2 (ax×σ) (H.nx+1) B (.normal,s0) _ gL.nx (fun k hk=>gL.get k hk zB2) ⟨h0 _ gL nL,rL,rd,Nat.le_of_eq nL.symm⟩;refine (C1.XB (hpr _) P6).mono fun v H3 ⟨X5,s',hjf,I6⟩=>?_;have hfr':Fr (fun k=>fp s0 k∨k=H.nx+1) _ H3:=X5;have f1:∀ o,Fr (fp s0) H (H3.mod (H.nx+1) o):=fun o=>(gL.none.then hfr' fun k hk=>hk.elim .inr fun h=>.inl (by omega)).mod _ (.inl (by omega));have f2:∀ k,fp s'.2 k→fp s0 k∨H.nx≤k:=fun k hk=>by
  rcases I6 k (.inl hk) with (h|h)|h
  ·exact .inl h
  ·exact .inr (by omega)
  exact .inr (by have:H.nx+2≤k:=h;omega)
 rcases hjf with ⟨j1,j2,j3,j4⟩|⟨j0,j1,j2,j3,j4⟩
 ·exact ⟨.normal,j2,fun o=>hn _ _ (hJ j1 (Sm.mod _ _)) j4 (by rw[az (by omega)];exact j3) (f1 o) f2⟩
 exact ⟨s'.1,j2,fun o=>hx _ _ _ j0 (hF j1 (Sm.mod _ _)) j4 (by rw[az (by omega)];exact j3) (f1 o) f2⟩
section
variable {st:Bool} {E:Env} {A:ab} {H:Hp} {next:ab→Hp→Prop} {d:Option Tmp} {ty:TypeId} {pos:String} {af:Array Edge} {gd:Option (Nat×Bool)}
def lkN (next:ab→Hp→Prop) (A:ab) (d:Option Tmp) (P:Program) (H:Hp) (o:Option (TypeId×TypeId)) (m k:AV) (ok:Bool):Prop:=fT o fun p=>fT (aB P p.2) fun z=>vN next A d (bk P H p.1 (ofValue z) m k ok)
theorem DH {P:Program} {kt et:TypeId} {m k:AV} {ok:Bool}:lkN next A d P H (some (kt,et)) m k ok=fT (aB P et) fun z=>vN next A d (bk P H kt (ofValue z) m k ok):=rfl
def upN (next:ab→Hp→Prop) (A:ab) (d:Option Tmp) (P:Program) (H:Hp) (o:Option (TypeId×TypeId)) (m k x:AV):Prop:=fT o fun p=>vN next A d (aT P H p.1 m k x)
theorem Dy {P:Program} {kt et:TypeId} {m k x:AV}:upN next A d P H (some (kt,et)) m k x=vN next A d (aT P H kt m k x):=rfl
theorem xP {t:TypeId} {m k:Operand} {ok:Bool}:SK st E ⟨d,.lookup t m k ok,ty,pos,af,gd⟩ A H next=(ltV (ev A.tm m) H.nx∧lkN next A d E.P H (ic E.P t) (ev A.tm m) (ev A.tm k) ok):=by
 show (_∧cI _ ((ndF (ic E.P t) _ _).run A.tm H))=_;rw[bZ];unfold lkN;cases ic E.P t with
 | none=>rfl
 | some p=>
  show (_∧cI _ ((ndF (aB E.P p.2) _ _).run A.tm H))=_;rw[bZ];rfl
theorem pI {t:TypeId} {m k x:Operand}:SK st E ⟨d,.mapUpdate t m k x,ty,pos,af,gd⟩ A H next=(ltV (ev A.tm m) H.nx∧upN next A d E.P H (ic E.P t) (ev A.tm m) (ev A.tm k) (ev A.tm x)):=by
 show (_∧cI _ ((ndF (ic E.P t) _ _).run A.tm H))=_;rw[bZ];rfl
theorem Ua {id n:Nat}:ltV (.one (.o (.mp id))) n=(id<n):=propext ⟨fun h=>h id (List.mem_singleton.2 rfl),fun h i hi=>by rw[List.mem_singleton.1 hi];exact h⟩
end
def jW:Nat→List (List UInt8×AC)→List bF
 | _,[]=>[]
 | n,(s,v)::l=>⟨.one (.o (.str s)),.one v,n⟩::jW (n+1) l
def hY (l:List (List UInt8×AC)):aK:=.oth (.map (jW 0 l) l.length)
def atK (l:List (List UInt8×AC)) (s:List UInt8):Option AC:=
 match l with
 | []=>none
 | (t,v)::l=>if t=s then some v else atK l s
theorem DI:∀ (n:Nat) (l:List (List UInt8×AC)),(jW n l).length=l.length
 | _,[]=>rfl
 | n,(s,v)::l=>congrArg (·+1) (DI (n+1) l)
theorem DG:∀ (n:Nat) (l:List (List UInt8×AC)) (s:List UInt8) (v:AC),jW n (l++[(s,v)])=jW n l++[⟨.one (.o (.str s)),.one v,n+l.length⟩]
 | n,[],s,v=>rfl
 | n,(t,w)::l,s,v=>by
  show _::jW (n+1) (l++[(s,v)])=_::(jW (n+1) l++_);rw[DG (n+1) l s v];have:n+1+l.length=n+(l.length+1):=by omega
  rw[this];rfl
theorem sN {P:Program} {kt:TypeId} (h:bA P kt=0) (s t:List UInt8):jF P kt (.one (.o (.str s))) (.one (.o (.str t)))=some (s==t):=by
 unfold jF;rw[h,←cM];rfl
theorem vg {P:Program} {kt:TypeId} (h:bA P kt=0) (s:List UInt8):∀ (n:Nat) (l:List (List UInt8×AC)),∃ e,jO P kt (.one (.o (.str s))) (jW n l)=some e∧e.map bF.val=(atK l s).map AV.one
 | _,[]=>⟨none,rfl,rfl⟩
 | n,(t,v)::l=>by
  obtain ⟨e,h1,h2⟩:=vg h s (n+1) l;have e0:jO P kt (.one (.o (.str s))) (jW n ((t,v)::l))=ay (jF P kt (.one (.o (.str s))) (.one (.o (.str t)))) none fun b=>ifE b (some (some ⟨.one (.o (.str t)),.one v,n⟩)) (jO P kt (.one (.o (.str s))) (jW (n+1) l)):=rfl;rw[e0,sN h];by_cases O2:s=t
  ·subst O2;refine ⟨some ⟨.one (.o (.str s)),.one v,n⟩,?_,?_⟩
   ·show ifE (s==s) _ _=_;rw[beq_self_eq_true];rfl
   show _=(if s=s then some v else atK l s).map AV.one;rw[zB0 rfl];rfl
  refine ⟨e,?_,?_⟩
  ·show ifE (s==t) _ _=_;rw[zB5 O2];exact h1
  show _=(if t=s then some v else atK l s).map AV.one;rw[zB1 (fun h=>O2 h.symm)];exact h2
theorem se {P:Program} {b:Bool} {kt:TypeId} (h:bA P kt=0) (s:List UInt8):iy P b kt (.one (.o (.str s)))=some ():=by
 unfold iy;rw[h];rfl
theorem wG {P:Program} {H:Hp} {kt:TypeId} {z:AV} {id:Nat} {s:List UInt8} {l:List (List UInt8×AC)} {ok:Bool} (h:bA P kt=0) (hg:H.get id=some (hY l)):
  bk P H kt z (.one (.o (.mp id))) (.one (.o (.str s))) ok=(match atK l s with|some v=>bC H ok (.one v) true|none=>bC H ok z false):=by
 obtain ⟨e,h1,h2⟩:=vg h s 0 l;unfold bk;have M1:H.get id=some (.oth (.map (jW 0 l) l.length)):=hg;simp only[M1,se h];show (match jO P kt (.one (.o (.str s))) (jW 0 l) with|some (some e)=>bC H ok e.val true|some none=>bC H ok z false|none=>.bad "lookup - keys")=_
 rw[h1];cases e with
 | none=>
  cases ha:atK l s with
  | none=>rfl
  | some v=>rw[ha] at h2;cases h2
 | some e=>
  cases ha:atK l s with
  | none=>rw[ha] at h2;cases h2
  | some v=>
   rw[ha] at h2;have:e.val=.one v:=Option.some.inj h2;show bC H ok e.val true=bC H ok (.one v) true;rw[this]
theorem xT {H:Hp} {v:AV} {b:Bool}:bC H false v b=.val v H:=rfl
theorem yQ {H:Hp} {c:AC} {b:Bool}:bC H true (.one c) b=.val (.tup [(false,[c]),(false,[.b b])]) H:=rfl
theorem Au {P:Program} {kt:TypeId} (h:bA P kt=0) (s:List UInt8) (x:AV):∀ (n:Nat) (l:List (List UInt8×AC)),atK l s=none→my P kt (.one (.o (.str s))) x (jW n l)=some (false,jW n l)
 | _,[],_=>rfl
 | n,(t,v)::l,ha=>by
  have hts:¬t=s:=fun e=>by
   unfold atK at ha;rw[zB0 e] at ha;cases ha
  have ha2:atK l s=none:=by
   unfold atK at ha;rwa [zB1 hts] at ha
  have ih:=Au h s x (n+1) l ha2;have e0:my P kt (.one (.o (.str s))) x (jW n ((t,v)::l))=ay (jF P kt (.one (.o (.str s))) (.one (.o (.str t)))) none fun b=>ifE b (ifE (sameKey P kt (.one (.o (.str t))) (.one (.o (.str s)))) (some (true,⟨.one (.o (.str s)),x,n⟩::jW (n+1) l)) none) (ay (my P kt (.one (.o (.str s))) x (jW (n+1) l)) none fun r=>some (r.1,⟨.one (.o (.str t)),.one v,n⟩::r.2)):=rfl;rw[e0,sN h];show ifE (s==t) _ _=_;rw[zB5 (fun h=>hts h.symm),ih];rfl
theorem vO {P:Program} {H:Hp} {kt:TypeId} {id:Nat} {s:List UInt8} {l:List (List UInt8×AC)} {x:AC} (h:bA P kt=0) (hg:H.get id=some (hY l)) (hn:atK l s=none):
  aT P H kt (.one (.o (.mp id))) (.one (.o (.str s))) (.one x)=.val aF (H.mod id (hY (l++[(s,x)]))):=by
 unfold aT;have M1:H.get id=some (.oth (.map (jW 0 l) l.length)):=hg;simp only[M1,se h];show nd (my P kt (.one (.o (.str s))) (.one x) (jW 0 l)) _ _=_;rw[Au h s (.one x) 0 l hn];show ad.val aF (H.mod id (.oth (.map (jW 0 l++[⟨.one (.o (.str s)),.one x,l.length⟩]) (l.length+1))))=_;unfold hY;rw[DG,List.length_append,Nat.zero_add];rfl
theorem TA {H:Hp} {id:Nat} {l:List (List UInt8×AC)} (hg:H.get id=some (hY l)):cG H 2 (.one (.o (.mp id)))=.val (.one (.i .i64 (l.length:Int))) H:=by
 have e:cG H 2 (.one (.o (.mp id)))=dQ H (.one (.o (.mp id))):=rfl;rw[e];unfold dQ;have M1:H.get id=some (.oth (.map (jW 0 l) l.length)):=hg;simp only[M1];rw[DI];rfl
theorem tu {k:IntKind} {n:Int}:ofValue (.int k n)=.one (.i k n):=rfl
theorem qQ {b:Bool}:ofValue (.bool b)=.one (.b b):=rfl
def Al {α β:Type} (R:β→α→Prop):List β→List α→Prop
 | [],[]=>True
 | c::cs,x::xs=>R c x∧Al R cs xs
 | _,_=>False
theorem Al.len {α β:Type} {R:β→α→Prop}:∀ {cs:List β} {xs:List α},Al R cs xs→cs.length=xs.length
 | [],[],_=>rfl
 | _::_,_::_,h=>congrArg (·+1) (Al.len h.2)
 | [],_::_,h=>h.elim
 | _::_,[],h=>h.elim
theorem Al.mono {α β:Type} {R R':β→α→Prop} (hr:∀ c x,R c x→R' c x):∀ {cs:List β} {xs:List α},Al R cs xs→Al R' cs xs
 | [],[],_=>trivial
 | _::_,_::_,h=>⟨hr _ _ h.1,Al.mono hr h.2⟩
 | [],_::_,h=>h.elim
 | _::_,[],h=>h.elim
theorem Al.at {α β:Type} {R:β→α→Prop}:∀ {cs:List β} {xs:List α} {i:Nat} {x:α},Al R cs xs→xs[i]?=some x→∃ c,cs[i]?=some c∧R c x
 | [],[],_,_,_,h=>by simp at h
 | c::cs,y::xs,0,x,h,hx=>by
  simp only[List.getElem?_cons_zero,Option.some.injEq] at hx;subst hx;exact ⟨c,rfl,h.1⟩
 | c::cs,y::xs,i+1,x,h,hx=>by
  rw[List.getElem?_cons_succ] at hx ⊢;exact Al.at h.2 hx
 | [],_::_,_,_,h,_=>h.elim
 | _::_,[],_,_,h,_=>h.elim
theorem Al.app {α β:Type} {R:β→α→Prop}:∀ {cs:List β} {xs:List α} {c:β} {x:α},Al R cs xs→R c x→Al R (cs++[c]) (xs++[x])
 | [],[],_,_,_,h=>⟨h,trivial⟩
 | _::_,_::_,_,_,h,k=>⟨h.1,Al.app h.2 k⟩
 | [],_::_,_,_,h,_=>h.elim
 | _::_,[],_,_,h,_=>h.elim
def SlR {α:Type} (R:Hp→List AC→α→Prop) (sz:Nat) (H:Hp) (v:AC) (l:List α):Prop:=
 ∃ css:List (List AC),SlC H v sz l.length (css.flatMap id)∧Al (fun c x=>c.length=sz∧R H c x) css l
theorem SlR.dp {α:Type} {R:Hp→List AC→α→Prop} {sz:Nat} {H H':Hp} {v:AC} {l:List α} (h:SlR R sz H v l) (hn:H.nx≤H'.nx) (hg:∀ i,i<H.nx→H'.get i=H.get i) (hr:∀ c x,R H c x→R H' c x):SlR R sz H' v l:=by
 obtain ⟨css,h1,h2⟩:=h;exact ⟨css,h1.dp hn hg,h2.mono fun c x h=>⟨h.1,hr c x h.2⟩⟩
theorem SlR.len {α:Type} {R:Hp→List AC→α→Prop} {sz:Nat} {H:Hp} {v:AC} {l:List α} (h:SlR R sz H v l):cG H 1 (.one v)=.val (.one (.i .i64 (l.length:Int))) H:=let ⟨_,h1,_⟩:=h;h1.len
theorem SlR.lt {α:Type} {R:Hp→List AC→α→Prop} {sz:Nat} {H:Hp} {v:AC} {l:List α} (h:SlR R sz H v l):ltV (.one v) H.nx:=let ⟨_,h1,_⟩:=h;lC h1
theorem kH {sz:Nat}:∀ {css:List (List AC)},(∀ c∈css,c.length=sz)→(css.flatMap id).length=css.length*sz
 | [],_=>by simp
 | c::css,h=>by
  rw[List.flatMap_cons,List.length_append,kH fun x hx=>h x (List.mem_cons_of_mem _ hx),List.length_cons,Nat.succ_mul];have:(id c:List AC).length=sz:=h c (List.mem_cons_self ..);omega
theorem wK {sz:Nat}:∀ {css:List (List AC)} {i:Nat} {c:List AC},(∀ c∈css,c.length=sz)→css[i]?=some c→((css.flatMap id).drop (i*sz)).take sz=c
 | [],_,_,_,h=>by simp at h
 | d::css,0,c,hl,h=>by
  simp only[List.getElem?_cons_zero,Option.some.injEq] at h;subst h;have:d.length=sz:=hl d (List.mem_cons_self ..);rw[Nat.zero_mul,List.drop_zero,List.flatMap_cons];show (d++_).take sz=d;rw[List.take_append_of_le_length (by omega),List.take_of_length_le (by omega)]
 | d::css,i+1,c,hl,h=>by
  rw[List.getElem?_cons_succ] at h;have hd:d.length=sz:=hl d (List.mem_cons_self ..);rw[List.flatMap_cons,Nat.succ_mul];show ((d++css.flatMap id).drop (i*sz+sz)).take sz=c;rw[List.drop_append,hd,List.drop_of_length_le (by omega),List.nil_append];have:i*sz+sz - sz=i*sz:=by omega
  rw[this];exact wK (fun x hx=>hl x (List.mem_cons_of_mem _ hx)) h
theorem Al.lens {α:Type} {R:List AC→α→Prop} {sz:Nat}:∀ {css:List (List AC)} {xs:List α},Al (fun c x=>c.length=sz∧R c x) css xs→∀ c∈css,c.length=sz
 | [],[],_,_,h=>by cases h
 | _::_,_::_,h,c,hc=>by
  rcases List.mem_cons.1 hc with rfl|hc
  ·exact h.1.1
  exact Al.lens h.2 c hc
 | [],_::_,h,_,_=>h.elim
 | _::_,[],h,_,_=>h.elim
theorem SlR.open {α:Type} {R:Hp→List AC→α→Prop} {sz:Nat} {H:Hp} {v:AC} {l:List α} (h:SlR R sz H v l) (hn:0<l.length):∃ id g off cells,v=.o (.sl id g off l.length sz)∧id<H.nx∧rowOf (H.get id) g=some cells ∧
  ∀ (i:Nat) (x:α),l[i]?=some x→off+i*sz+sz≤cells.length∧∃ c,(cells.drop (off+i*sz)).take sz=c∧c.length=sz∧R H c x:=by
 obtain ⟨css,h1,h2⟩:=h;obtain ⟨id,g,off,e1,hid,hr⟩:=SlC.pos h1 hn;have Y2:=hr;obtain ⟨cells,h3,h6,h7⟩:=hr;refine ⟨id,g,off,cells,e1,hid,h3,fun i x hx=>?_⟩;obtain ⟨c,hc,R0,hR⟩:=h2.at hx;have D0:i<l.length:=by
  rcases Nat.lt_or_ge i l.length with h|h
  ·exact h
  rw[List.getElem?_eq_none h] at hx;cases hx
 have hmul:(i+1)*sz≤l.length*sz:=Nat.mul_le_mul_right _ D0;rw[Nat.succ_mul] at hmul;obtain ⟨cells',k3,k6,k7⟩:=Y2.part (i*sz) sz hmul;rw[h3] at k3;cases k3
 refine ⟨k6,c,?_,R0,hR⟩;rw[k7];exact wK h2.lens hc
def fiO (o:Option (List AC)) (H:Hp):ad:=match o with|some c=>.val (.agg c) H|none=>.bad "build - fill"
theorem GU {c:List AC} {H:Hp}:fiO (some c) H=.val (.agg c) H:=rfl
def buO (o:Option (List (Nat×Nat×OpF))) (z:List AC) (tm:PT AV) (H:Hp):ad:=match o with|some q=>fiO (eZ tm q z) H|none=>.bad "build - parts"
theorem Dx {q:List (Nat×Nat×OpF)} {z:List AC} {tm:PT AV} {H:Hp}:buO (some q) z tm H=fiO (eZ tm q z) H:=rfl
theorem MH {P:Program} {tm:PT AV} {H:Hp} {d:Option Tmp} {t:TypeId} {ps:Array (Nat×Operand)} {ty:TypeId} {pos:String} {af:Array Edge} {g:Option (Nat×Bool)} {z:List AC} {pl:Nat→Option (Nat×Nat)}
  (hz:(aB P t).map (fun z=>(ofValue z).cells)=some z) (hp:ca P t=some pl):(ao P ⟨d,.build t ps,ty,pos,af,g⟩).run tm H=buO (cC pl ps.toList) z tm H:=by
 cases L3:aB P t with
 | none=>rw[L3] at hz;cases hz
 | some zv=>
  rw[L3] at hz;have hz2:(ofValue zv).cells=z:=Option.some.inj hz;show (ndF (aB P t) "build - zero" fun z=>ndF (ca P t) "build - type" fun pl=>ndF (cC pl ps.toList) "build - parts" fun ps=>.mk fun tm h=>oo h (ofValue z).cells tm ps).run tm H=_
  rw[L3,hp];show (ndF (cC pl ps.toList) "build - parts" fun ps=>.mk fun tm h=>oo h (ofValue zv).cells tm ps).run tm H=_
  rw[hz2];cases cC pl ps.toList with
  | none=>rfl
  | some q=>
   show nd (eZ tm q z) "build - fill" (fun c=>.val (.agg c) H)=fiO (eZ tm q z) H
   cases eZ tm q z <;> rfl
theorem OT {h:Hp} {sz:Nat}:jf h sz (.one (.o .nilS))=some (0,[]):=rfl
theorem lA {P:Program} {h:Hp} {t e:TypeId} {sz by_ n:Nat} {z:Value} {x:AV} {c:List AC} (he:bm P t=some (e,sz)) (hb:cB P e=some by_) (hz:aB P e=some z) (L1:(ofValue z).cells.length=sz) (G1:sz≠0)
  (hs:jf h sz x=some (n,c)) (h1:n≤140737488355328) (h2:n*by_≤140737488355328):aV P h t (.one (.o .nilS)) x=if n=0 then .val (.one (.o .nilS)) h else .val (.one (.o (.sl h.nx 0 0 n sz))) (h.new (.arr c e 0 0)):=by
 have e1:Nat.beq sz 0=false:=by
  cases h:Nat.beq sz 0 with
  | false=>rfl
  | true=>exact absurd (zA3 h) G1
 have e3:both (!Nat.beq sz 0) (Nat.beq (bw (ofValue z).cells) sz)=true:=by rw[e1,bj,L1,Nat.beq_refl];rfl
 have e4:both (Nat.ble n 140737488355328) (Nat.ble (Nat.mul n by_) 140737488355328)=true:=by
  rw[zA5 h1];exact zA5 h2
 unfold aV;simp only[he,hb,hz,nd,e3,aH,hs];show Eng.ifE (Nat.beq n 0) (.val (.one (.o .nilS)) h) (aH (both (Nat.ble n 140737488355328) (Nat.ble (Nat.mul n by_) 140737488355328)) "append - too much" (.val (.one (.o (.sl h.nx 0 0 n sz))) (h.new (.arr c e 0 0))))=_
 rw[e4];by_cases hn:n=0
 ·subst hn;rfl
 have:Nat.beq n 0=false:=by
  cases h:Nat.beq n 0 with
  | false=>rfl
  | true=>exact absurd (zA3 h) hn
 rw[this,zB1 hn];rfl
theorem Sg {P:Program} {j m:Nat} {did:List DSy} {A:ab} {d:Option Tmp} {H:Hp} {next:List DSy→ab→Hp→Prop} {t e:TypeId} {sz by_ n:Nat} {z:Value} {v:AC} {cells:List AC} (he:bm P t=some (e,sz)) (hb:cB P e=some by_) (hz:aB P e=some z) (L1:(ofValue z).cells.length=sz) (G1:sz≠0)
  (hv:SlC H v sz n cells) (h2:n≤140737488355328∧n*by_≤140737488355328) (hu:∀ id∈(AV.one v).ids,bJ id (aR m did))
  (hn:∀ v' c1 H',SlC H' v' sz n cells→(∀ id∈(AV.one v').ids,H.nx≤id)→Gr H H'→c1=H'.nx→next (⟨j,none,H.nx,c1,[]⟩::did) (bq A d (.one v')) H'):
  AP j m did A d H next ((AV.one (.o .nilS)).ids++(AV.one v).ids) fun h=>aV P h t (.one (.o .nilS)) (.one v):=by
 have D0:=lC hv;refine ⟨fun id h=>?_,?_⟩
 ·have h':id∈(AV.one v).ids:=h;exact ⟨D0 id h',hu id h'⟩
 rcases hv with ⟨hc,⟨rfl,rfl⟩|⟨id,g,off,rfl,hid,hr⟩⟩
 ·rw[Nat.zero_mul] at hc;have hc:=List.eq_nil_of_length_eq_zero hc;subst hc;refine .inr ⟨.one (.o .nilS),fun h _ _=>(lA he hb hz L1 G1 OT (by omega) (by omega)).trans (zB0 rfl),hn _ _ _ ⟨by simp,.inl ⟨rfl,rfl⟩⟩ (fun _ h=>by cases h) (Fr.refl _) rfl⟩
 obtain ⟨row,hg,hle,X3⟩:=hr;have src:∀ h:Hp,(∀ k∈(AV.one (.o .nilS)).ids++(AV.one (.o (.sl id g off n sz))).ids,h.get k=H.get k)→jf h sz (.one (.o (.sl id g off n sz)))=some (n,cells):=fun h hh=>by
  have:h.get id=H.get id:=hh id (List.mem_append_right _ (List.mem_singleton.2 rfl));rw[kQ (cells:=row) (by rw[this];exact hg) hle,X3]
 rcases Nat.eq_zero_or_pos n with h0|h0
 ·refine .inr ⟨.one (.o .nilS),fun h _ hh=>(lA he hb hz L1 G1 (src h hh) h2.1 h2.2).trans (zB0 h0),hn _ _ _ ⟨hc,.inl ⟨rfl,h0⟩⟩ (fun _ h=>by cases h) (Fr.refl _) rfl⟩
 refine .inl ⟨.one (.o (.sl H.nx 0 0 n sz)),.arr cells e 0 0,fun h W0 hh=>((lA he hb hz L1 G1 (src h hh) h2.1 h2.2).trans (zB1 (by omega))).trans (by rw[W0]),hn _ _ _ ⟨hc,.inr ⟨H.nx,0,0,rfl,zA6 _,?_⟩⟩ (fun k h=>by rw[List.mem_singleton.1 h];exact zA1 _) ((Fr.refl _).new _) rfl⟩;refine ⟨cells,by rw[aG rfl];rfl,by omega,?_⟩;rw[List.drop_zero,List.take_of_length_le (by omega)]
theorem js {P:Program} {H:Hp} {t e:TypeId} {sz by_ n:Nat} {z:Value} {v:AC} {cells:List AC} {r:Option Nat} (he:bm P t=some (e,sz)) (hb:cB P e=some by_) (hz:aB P e=some z) (L1:(ofValue z).cells.length=sz) (G1:sz≠0)
  (ho:eU H v e sz n cells r) (c0:List AC) (B6:c0.length=sz) (hL:n+1≤140737488355328∧(n+1)*by_≤140737488355328):
  ltV (.one v) (H.new (.arr c0 e 0 0)).nx∧∃ v' H' r',aV P (H.new (.arr c0 e 0 0)) t (.one v) (.one (.o (.sl H.nx 0 0 1 sz)))=.val (.one v') H' ∧
   eU H' v' e sz (n+1) (cells++c0) (some r')∧Fr (fun i=>r=some i) H H'∧(r=some r'∨H.nx≤r'):=by
 have hown3:=ho.fr ((Fr.refl _:Gr _ _).new (.arr c0 e 0 0)) fun _ _ h=>h;obtain ⟨v5,H5,r5,Q1,how5,hf5,hr5⟩:=oT (P:=P) (t:=t) (H:=H.new (.arr c0 e 0 0)) (x:=.one (.o (.sl H.nx 0 0 1 sz))) (k:=1) (c:=c0) he hb hz L1 G1 hown3
  (by rw[kQ (cells:=c0) (by rw[aG rfl];rfl) (by omega)];simp only[List.drop_zero,Nat.one_mul];rw[List.take_of_length_le (by omega)]) (by decide) (by rw[B6,Nat.one_mul]) hL.1 hL.2
 refine ⟨hown3.lt,v5,H5,r5,Q1,how5,?_,?_⟩
 ·exact ((Fr.refl _:Gr _ _).new (.arr c0 e 0 0)).none.then hf5 fun q hq=>.inr hq
 rcases hr5 with h|⟨_,h⟩
 ·exact .inl h
 right;rw[h,gN];omega
theorem rh {tm:PT AV}:ev tm (.const (.pointer none))=.one (.o .nilP):=rfl
theorem LM {tm:PT AV}:ev tm (.const (.map none))=.one (.o .nilM):=rfl
theorem KT {tm:PT AV}:ev tm (.const .nilFunc)=.one (.o .nilF):=rfl
theorem ri {H:Hp} {id g off lim:Nat}:fX H (.one (.o (.ptr id g off lim)))=.val (.one (.o (.ptr id g off lim))) H:=rfl
theorem tK {H:Hp} {id g off lim:Nat} {alt:ad} {f:BF}:bp H 0 .eql f (.one (.o (.ptr id g off lim))) (.one (.o .nilP)) alt=.val (.one (.b false)) H:=rfl
theorem Ir {H:Hp} {id:Nat} {alt:ad} {f:BF}:bp H 2 .eql f (.one (.o (.mp id))) (.one (.o .nilM)) alt=.val (.one (.b false)) H:=rfl
theorem Tu {H:Hp} {alt:ad} {f:BF}:bp H 0 .eql f (.one (.o .nilP)) (.one (.o .nilP)) alt=alt:=rfl
theorem TG {H:Hp} {alt:ad} {f:BF}:bp H 2 .eql f (.one (.o .nilM)) (.one (.o .nilM)) alt=alt:=rfl
def Rv (r:Bool) (H:Hp) (alt:ad) (x y:AV):ad:=
 match x,y with
 | .one (.o .nilP),.one (.o .nilP)=>.val (.one (.b r)) H
 | _,_=>alt
theorem Um {r:Bool} {H:Hp} {alt:ad}:Rv r H alt (.one (.o .nilP)) (.one (.o .nilP))=.val (.one (.b r)) H:=rfl
theorem Jf {P:Program} {tm:PT AV} {H:Hp} {d:Option Tmp} {t c:TypeId} {e:TypeId} {x y:Operand} {ty:TypeId} {pos:String} {af:Array Edge} {g:Option (Nat×Bool)} (h:P.underlying t=some (.pointer e)):
  an P tm H ⟨d,.binOp .eql t x y c,ty,pos,af,g⟩=Rv true H (bD P tm H ⟨d,.binOp .eql t x y c,ty,pos,af,g⟩) (ev tm x) (ev tm y):=by
 unfold Rv;split
 ·rename_i hx hy
  have vx:(ev tm x).val?=some (.pointer none):=by rw[hx];rfl
  have vy:(ev tm y).val?=some (.pointer none):=by rw[hy];rfl
  have dx:aY (ev tm x)=.pointer none:=by unfold aY;rw[vx]
  have dy:aY (ev tm y)=.pointer none:=by unfold aY;rw[vy]
  unfold an;have e1:((⟨d,.binOp .eql t x y c,ty,pos,af,g⟩:Oper).op.operands.toList.all fun x=>(ev tm x).val?.isSome)=true:=by
   show ([x,y].all fun x=>(ev tm x).val?.isSome)=true;simp only[List.all_cons,List.all_nil,vx,vy];rfl
  rw[e1];have e2:aw P (execOp (fun x=>aY (ev tm x)) ⟨d,.binOp .eql t x y c,ty,pos,af,g⟩)=some (.value (.bool true)):=by
   show aw P (Sem.bind (Sem.bind (eqGuard .eql t x y (aY (ev tm x)) (aY (ev tm y))) fun _=>binOp .eql t (aY (ev tm x)) (aY (ev tm y))) fun v=>Sem.pure (Next.value v))=_;rw[dx,dy,aN,aN];have hg:eqGuard .eql t x y (.pointer none) (.pointer none)=pure ():=rfl;rw[hg];show ((aw P (Sem.bind (Op.equalIn 10000 t (.pointer none) (.pointer none)) fun r=>Sem.pure (Value.bool r)))).bind _=_;have he:aw P (Op.equalIn 10000 t (.pointer none) (.pointer none))=some true:=by
    unfold Op.equalIn;rw[ba,bL h];rfl
   rw[aN,he];rfl
  rw[e2];rfl
 rfl
def RR (r:Bool) (H:Hp) (alt:ad) (x y:AV):ad:=
 match x,y with
 | .one (.o .nilM),.one (.o .nilM)=>.val (.one (.b r)) H
 | _,_=>alt
theorem VJ {r:Bool} {H:Hp} {alt:ad}:RR r H alt (.one (.o .nilM)) (.one (.o .nilM))=.val (.one (.b r)) H:=rfl
theorem Jy {P:Program} {tm:PT AV} {H:Hp} {d:Option Tmp} {t c:TypeId} {kt et:TypeId} {x y:Operand} {ty:TypeId} {pos:String} {af:Array Edge} {g:Option (Nat×Bool)} (h:P.underlying t=some (.map kt et)):
  an P tm H ⟨d,.binOp .eql t x y c,ty,pos,af,g⟩=RR true H (bD P tm H ⟨d,.binOp .eql t x y c,ty,pos,af,g⟩) (ev tm x) (ev tm y):=by
 unfold RR;split
 ·rename_i hx hy
  have vx:(ev tm x).val?=some (.map none):=by rw[hx];rfl
  have vy:(ev tm y).val?=some (.map none):=by rw[hy];rfl
  have dx:aY (ev tm x)=.map none:=by unfold aY;rw[vx]
  have dy:aY (ev tm y)=.map none:=by unfold aY;rw[vy]
  unfold an;have e1:((⟨d,.binOp .eql t x y c,ty,pos,af,g⟩:Oper).op.operands.toList.all fun x=>(ev tm x).val?.isSome)=true:=by
   show ([x,y].all fun x=>(ev tm x).val?.isSome)=true;simp only[List.all_cons,List.all_nil,vx,vy];rfl
  rw[e1];have e2:aw P (execOp (fun x=>aY (ev tm x)) ⟨d,.binOp .eql t x y c,ty,pos,af,g⟩)=some (.value (.bool true)):=by
   show aw P (Sem.bind (Sem.bind (eqGuard .eql t x y (aY (ev tm x)) (aY (ev tm y))) fun _=>binOp .eql t (aY (ev tm x)) (aY (ev tm y))) fun v=>Sem.pure (Next.value v))=_;rw[dx,dy,aN,aN];have hg:eqGuard .eql t x y (.map none) (.map none)=pure ():=rfl;rw[hg];show ((aw P (Sem.bind (Op.equalIn 10000 t (.map none) (.map none)) fun r=>Sem.pure (Value.bool r)))).bind _=_;have he:aw P (Op.equalIn 10000 t (.map none) (.map none))=some true:=by
    unfold Op.equalIn;rw[ba,bL h];rfl
   rw[aN,he];rfl
  rw[e2];rfl
 rfl
open Go Go.ChangeShapes Go.WideShapes
def fh (W:World) (xs:List (Option jA)):Prop:=∀ (i:Nat) (x:jA),(xs[i]?).join=some x→py (jz xs) W x.cells x.p
def nj (W:World):Prop:=∃ (b:Nat) (c:Array Value) (e:TypeId) (f:Nat×Nat),W.heap[b]?=some (.cells c e f)
theorem mN (xs ys:List (Option jA)):Sub (jz xs) (jz (xs++ys)):=by
 intro i g p h;unfold jz at h ⊢;split at h
 ·rename_i hg
  rw[zB0 hg];by_cases hi:i<xs.length
  ·rw[List.getElem?_append_left hi];exact h
  rw[List.getElem?_eq_none (by omega)] at h;cases h
 cases h
theorem ux (xs ys:List (Option jA)):Gr (nz xs) (nz (xs++ys)) where
 nx:=by show xs.length≤(xs++ys).length;simp
 get:=fun i hi _=>by
  have P8:i<xs.length:=hi;rw[kU,kU,List.getElem?_append_left P8]
 log:=⟨[],rfl,fun _ h=>by cases h⟩
theorem py.sub {β β':Pl} {W:World} {cells:List AC} {p:Place} (hs:Sub β β') (h:py β W cells p):py β' W cells p:=by
 obtain ⟨c,e,f,h1,h2,h3,h4,h5⟩:=h;refine ⟨c,e,f,h1,h2,h3,h4,fun k x hk hx=>?_⟩;obtain ⟨v,hv,hr⟩:=h5 k x hk hx;exact ⟨v,hv,CR.mono hs hr⟩
theorem xX {W:World} {xs:List (Option jA)} {r:jA} (h:fh W xs) (hr:py (jz xs) W r.cells r.p):fh W (xs++[some r]):=by
 intro i x hx;by_cases hi:i<xs.length
 ·rw[List.getElem?_append_left hi] at hx;exact py.sub (mN _ _) (h i x hx)
 rw[List.getElem?_append_right (by omega)] at hx;have:i - xs.length=0:=by
  rcases Nat.eq_zero_or_pos (i - xs.length) with h|h
  ·exact h
  rw[List.getElem?_eq_none (by simp;omega)] at hx;cases hx
 rw[this] at hx;cases hx
 exact py.sub (mN _ _) hr
theorem Ba (xs:List (Option jA)) (r:jA):jz (xs++[some r]) xs.length 0=some r.p:=by
 unfold jz;rw[zB0 rfl,List.getElem?_append_right (zA1 _),Nat.sub_self];rfl
theorem AF (xs:List (Option jA)) (r:jA):(nz (xs++[some r])).get xs.length=some (.ro r.cells):=by
 rw[kU,List.getElem?_append_right (zA1 _),Nat.sub_self];rfl
theorem Rx {W:World}:fh W []:=fun i x h=>by simp at h
section
variable {P:Program} {W:World} {α β:Type}
def Opn (P:Program) (W:World) (sz:Nat) (R:Nat→Hp→List AC→α→Prop) (t:TypeId):Prop:=
 ∀ (H:Type) (enc:TypeId×Value→H) (fuel:Nat) (cs:List Value) (d:DataW H) (p:List MemPlace) (B:Nat),
  DataW.trod enc P W 0 (fun _=>true) true fuel t cs=some (d,p)→(∀ n∈d.weights P t,n≤B) →
  ∀ xs,fh W xs→∃ ys c x,fh W (xs++ys)∧CRs (jz (xs++ys)) c cs∧c.length=sz∧R B (nz (xs++ys)) c x
def vj (B:Nat) (_:Hp) (c:List AC) (s:List UInt8):Prop:=c=[.o (.str s)]∧s.length≤B
def Ch (k:IntKind) (_:Nat) (_:Hp) (c:List AC) (z:Int):Prop:=c=[.i k z]∧(Lit.int k z).wf=true
def TQ (_:Nat) (_:Hp) (c:List AC) (z:Bool):Prop:=c=[.b z]
theorem gK {t:TypeId} (ht:P.underlying t=some .string):Opn P W 1 vj t:=by
 intro H enc fuel cs d p B h hw xs hx;obtain ⟨s,rfl,e,_⟩:=DataW.trod_string ht h;cases e
 refine ⟨[],[.o (.str s.data.toList)],s.data.toList,by rwa [List.append_nil],⟨?_,trivial⟩,rfl,rfl,hw _ (by simp[DataW.weights])⟩;show Value.string s=.string ⟨s.data.toList.toArray⟩;simp
theorem lS {t:TypeId} {k:IntKind} (ht:P.underlying t=some (.int k)):Opn P W 1 (Ch k) t:=by
 intro H enc fuel cs d p B h hw xs hx;obtain ⟨n,rfl,e,P7⟩:=DataW.trod_int ht h;exact ⟨[],[.i k n],n,by rwa [List.append_nil],⟨rfl,trivial⟩,rfl,rfl,P7⟩
def Ma {H:Type} (enc:TypeId×Value→H) (P:Program) (W:World) (n:Nat):List TypeId→List Value→List (DataW H×List MemPlace)→Prop
 | [],cs,[]=>cs=[]
 | t::ts,cs,y::ys=>P.cellsOf t≤cs.length∧DataW.trod enc P W 0 (fun _=>true) true n t (cs.take (P.cellsOf t))=some y∧Ma enc P W n ts (cs.drop (P.cellsOf t)) ys
 | _,_,_=>False
def Uo (P:Program) (W:World) (sz:Nat) (R:Nat→Hp→List AC→α→Prop) (ts:List TypeId):Prop:=
 ∀ (H:Type) (enc:TypeId×Value→H) (n:Nat) (cs:List Value) (ys:List (DataW H×List MemPlace)) (B:Nat),
  Ma enc P W n ts cs ys→(∀ n∈DataW.weightsEach P ts (ys.map (·.1)),n≤B) →
  ∀ xs,fh W xs→∃ rs c x,fh W (xs++rs)∧CRs (jz (xs++rs)) c cs∧c.length=sz∧R B (nz (xs++rs)) c x
theorem fJ {sz:Nat} {R:Nat→Hp→List AC→α→Prop} {t:TypeId} (h:Opn P W sz R t):Uo P W sz R [t]:=by
 intro H enc n cs ys B hp hw xs hx;match ys,hp with
 | [y],⟨h1,h2,h3⟩=>
  have E9:cs.drop (P.cellsOf t)=[]:=h3;have e:cs.take (P.cellsOf t)=cs:=by have:=List.take_append_drop (P.cellsOf t) cs;rwa [E9,List.append_nil] at this
  rw[e] at h2;exact h H enc n cs y.1 y.2 B h2 (fun n hn=>hw n (by simp[DataW.weightsEach,hn])) xs hx
def fw (R:Nat→Hp→List AC→α→Prop) (S:Nat→Hp→List AC→β→Prop) (B:Nat) (H:Hp) (c:List AC) (x:α×β):Prop:=∃ c1 c2,c=c1++c2∧R B H c1 x.1∧S B H c2 x.2
def jZ (R:Nat→Hp→List AC→α→Prop):Prop:=∀ B H H' c x,R B H c x→Gr H H'→R B H' c x
theorem bS:jZ vj:=fun _ _ _ _ _ h _=>h
theorem ed {k:IntKind}:jZ (Ch k):=fun _ _ _ _ _ h _=>h
theorem bT {R:Nat→Hp→List AC→α→Prop} {S:Nat→Hp→List AC→β→Prop} (h:jZ R) (k:jZ S):jZ (fw R S):=fun _ _ _ _ _ ⟨c1,c2,e,a,b⟩ g=>⟨c1,c2,e,h _ _ _ _ _ a g,k _ _ _ _ _ b g⟩
theorem bP {sz sz':Nat} {R:Nat→Hp→List AC→α→Prop} {S:Nat→Hp→List AC→β→Prop} {t:TypeId} {ts:List TypeId} (h:Opn P W sz R t) (hR:jZ R) (hs:Uo P W sz' S ts):Uo P W (sz+sz') (fw R S) (t::ts):=by
 intro H enc n cs ys B hp hw xs hx;match ys,hp with
 | y::ys,⟨h1,h2,h3⟩=>
  obtain ⟨r1,c1,x1,a1,a2,a3,a4⟩:=h H enc n _ y.1 y.2 B h2 (fun n hn=>hw n (by simp[DataW.weightsEach,hn])) xs hx;obtain ⟨r2,c2,x2,b1,b2,b3,b4⟩:=hs H enc n _ ys B h3 (fun n hn=>hw n (by simp only[List.map_cons,DataW.weightsEach,List.mem_append];exact .inr hn)) (xs++r1) a1;rw[List.append_assoc] at b1 b2 b4;refine ⟨r1++r2,c1++c2,(x1,x2),b1,?_,by rw[List.length_append,a3,b3],c1,c2,rfl,?_,b4⟩
  ·have:=CRs.append (CRs.mono (by rw[←List.append_assoc];exact mN _ _) a2) b2;rwa [List.take_append_drop] at this
  exact hR _ _ _ _ _ a4 (by rw[←List.append_assoc];exact ux _ _)
def rW (P:Program) (n:Nat):Nat→List Field→Bool
 | o,[]=>o==n
 | o,f::fs=>(f.offset==o)&&(decide (o+P.cellsOf f.type≤n)&&rW P n (o+P.cellsOf f.type) fs)
theorem vK {H:Type} {enc:TypeId×Value→H} {n:Nat} {cs:List Value}:∀ (fs:List Field) (o:Nat) (ys:List (DataW H×List MemPlace)),rW P cs.length o fs=true→ys.length=fs.length →
  (∀ (i:Nat) (f:Field),fs[i]?=some f→DataW.trod enc P W 0 (fun _=>true) true n f.type ((cs.drop f.offset).take (P.cellsOf f.type))=ys[i]?)→Ma enc P W n (fs.map (·.type)) (cs.drop o) ys
 | [],o,[],ho,_,_=>by
  have:o=cs.length:=by simpa [rW] using ho
  show cs.drop o=[];rw[this,List.drop_length]
 | f::fs,o,y::ys,ho,hl,h=>by
  simp only[rW,Bool.and_eq_true,beq_iff_eq,decide_eq_true_eq] at ho;obtain ⟨h1,h2,h3⟩:=ho;refine ⟨by show P.cellsOf f.type≤_;rw[List.length_drop];omega,?_,?_⟩
  ·have:=h 0 f rfl;rwa [h1] at this
  rw[List.drop_drop];exact vK fs _ ys h3 (by simpa using hl) fun i g hg=>h (i+1) g hg
 | [],_,_::_,_,hl,_=>by simp at hl
 | _::_,_,[],_,hl,_=>by simp at hl
theorem dC {sz:Nat} {R:Nat→Hp→List AC→α→Prop} {t:TypeId} {fs:Array Field} {ts:List TypeId} (ht:P.underlying t=some (.struct fs)) (ho:rW P (P.cellsOf t) 0 fs.toList=true) (hts:fs.toList.map (·.type)=ts) (h:Uo P W sz R ts):Opn P W sz R t:=by
 intro H enc fuel cs d p B hd hw xs hx;obtain ⟨ys,n,_,e,hl,hyl,hf⟩:=DataW.trod_struct ht hd;cases e
 rw[←hl] at ho;have hp:=vK (enc:=enc) (W:=W) (n:=n) (cs:=cs) fs.toList 0 ys ho (by rw[hyl];simp) (fun i f hi=>hf i f (by simpa using hi));rw[hts,List.drop_zero] at hp;refine h H enc n cs ys B hp (fun k hk=>hw k ?_) xs hx;simp only[DataW.weights,ht];rwa [hts]
theorem nF {H:Type} {e:TypeId} {d:DataW H} {n:Nat} (hn:n∈d.weights P e):∀ {l:List (DataW H)},d∈l→n∈DataW.weightsAll P e l
 | x::l,h=>by
  rcases List.mem_cons.1 h with rfl|h
  ·simp[DataW.weightsAll,hn]
  simp only[DataW.weightsAll,List.mem_append];exact .inr (nF hn h)
def xE (P:Program) (e:TypeId) (sz:Nat) (R:Nat→Hp→List AC→α→Prop) (B:Nat) (H:Hp) (c:List AC) (l:List α):Prop:=∃ u,c=[u]∧SlR (R B) sz H u l∧l.length*P.bytesOf e≤B
theorem og {e:TypeId} {sz:Nat} {R:Nat→Hp→List AC→α→Prop} (h:jZ R):jZ (xE P e sz R):=fun _ _ _ _ _ ⟨u,hc,a,b⟩ g=>⟨u,hc,a.dp g.nx (fun i hi=>g.get i hi zB2) fun _ _ k=>h _ _ _ _ _ k g,b⟩
theorem zo {sz:Nat} {R:Nat→Hp→List AC→α→Prop} {e:TypeId} (hR:jZ R) (h:Opn P W sz R e) {H:Type} {enc:TypeId×Value→H} {n B:Nat} {a:Addr} {D:Nat→DataW H} {Pl:Nat→List MemPlace}:
  ∀ (m:Nat),(∀ i,i<m→∃ cs',W.cells? 0 (a.add (i*sz)) sz=some cs'∧DataW.trod enc P W 0 (fun _=>true) true n e cs'=some (D i,Pl i))→(∀ i,i<m→∀ k∈(D i).weights P e,k≤B) →
  ∀ xs,fh W xs→∃ ys css l,l.length=m∧fh W (xs++ys)∧Al (fun c x=>c.length=sz∧R B (nz (xs++ys)) c x) css l ∧
   ∀ k,k<m→∃ c cs',css[k]?=some c∧W.cells? 0 (a.add (k*sz)) sz=some cs'∧CRs (jz (xs++ys)) c cs'
 | 0,_,_,xs,hx=>⟨[],[],[],rfl,by rwa [List.append_nil],trivial,fun k hk=>absurd hk (Nat.not_lt_zero k)⟩
 | m+1,hc,hw,xs,hx=>by
  obtain ⟨ys,css,l,hl,V0,p7,hk⟩:=zo hR h m (fun i hi=>hc i (by omega)) (fun i hi=>hw i (by omega)) xs hx;obtain ⟨cs',h1,h2⟩:=hc m (zA6 m);obtain ⟨zs,c,x,b1,b2,b3,b4⟩:=h H enc n cs' _ _ B h2 (hw m (zA6 m)) (xs++ys) V0;have hlen:css.length=m:=by rw[p7.len,hl]
  rw[List.append_assoc] at b1 b2 b4;have U0:Sub (jz (xs++ys)) (jz (xs++(ys++zs))):=by rw[←List.append_assoc];exact mN _ _
  have T0:Gr (nz (xs++ys)) (nz (xs++(ys++zs))):=by rw[←List.append_assoc];exact ux _ _
  refine ⟨ys++zs,css++[c],l++[x],by simp[hl],b1,Al.app (p7.mono fun c x ⟨u,v⟩=>⟨u,hR _ _ _ _ _ v T0⟩) ⟨b3,b4⟩,fun k W4=>?_⟩;by_cases hkm:k<m
  ·obtain ⟨c1,cs1,e1,e2,e3⟩:=hk k hkm;exact ⟨c1,cs1,by rw[List.getElem?_append_left (by omega)];exact e1,e2,CRs.mono U0 e3⟩
  have:k=m:=by omega
  subst this;exact ⟨c,cs',by rw[List.getElem?_append_right (by omega),hlen,Nat.sub_self];rfl,h1,b2⟩
theorem gk {sz:Nat} {R:Nat→Hp→List AC→α→Prop} {t e:TypeId} (ht:P.underlying t=some (.slice e)) (G1:P.cellsOf e=sz) (V3:0<sz) (hR:jZ R) (hB:nj W) (h:Opn P W sz R e):
  Opn P W 1 (xE P e sz R) t:=by
 intro H enc fuel cs d p B hd hw xs hx;rcases Deep.open_slice ht hd with ⟨rfl,e1⟩|⟨a,len,cap,m,n,D,Pl,rfl,_,hl,hmax,hm,hxx,J2⟩
 ·exact ⟨[],[.o .nilS],[],by rwa [List.append_nil],⟨rfl,trivial⟩,rfl,.o .nilS,rfl,⟨[],⟨by simp,.inl ⟨rfl,rfl⟩⟩,trivial⟩,by simp⟩
 have hm':m=cap:=by rw[hm];rfl
 subst hm';rw[G1] at J2;have M_:=congrArg Prod.fst hxx;simp only at M_
 subst M_;simp only[DataW.weights,ht] at hw;have hwl:len*P.bytesOf e≤B:=by
  have:=hw _ (List.mem_cons_self ..);simp only[List.length_map,List.length_range] at this;exact zA2 (Nat.mul_le_mul_right _ (by omega)) this
 have hwe:∀ i,i<len→∀ k∈(D i).weights P e,k≤B:=fun i hi k hk=>hw k (List.mem_cons_of_mem _ (List.mem_append_left _ (nF hk (List.mem_map.2 ⟨i,List.mem_range.2 hi,rfl⟩))));obtain ⟨ys,css,l,hll,V0,p7,hk⟩:=zo hR h len (fun i hi=>J2 i (by omega)) hwe xs hx;have R0:css.length=len:=by rw[p7.len,hll]
 have hlens:∀ c∈css,c.length=sz:=p7.lens;have Y9:(css.flatMap id).length=len*sz:=by rw[kH hlens,R0]
 rcases Nat.eq_zero_or_pos m with hm0|hm0
 ·
  subst hm0;have U7:len=0:=by omega
  subst U7;obtain ⟨b0,c0,e0,f0,i'⟩:=hB;have W2:css=[]:=List.eq_nil_of_length_eq_zero R0;have U7:l=[]:=List.eq_nil_of_length_eq_zero hll;subst W2 U7;have B1:py (jz (xs++ys)) W [] ⟨b0,0,c0.size,0⟩:=⟨c0,e0,f0,i',rfl,Nat.zero_le _,zA1 _,fun k x hk _=>absurd hk (Nat.not_lt_zero k)⟩;have J7:=xX (r:=⟨[],⟨b0,0,c0.size,0⟩⟩) V0 B1;rw[List.append_assoc] at J7;have N3:=Ba (xs++ys) ⟨[],⟨b0,0,c0.size,0⟩⟩;have hhl:=AF (xs++ys) ⟨[],⟨b0,0,c0.size,0⟩⟩;rw[List.append_assoc] at N3 hhl;refine ⟨ys++[some ⟨[],⟨b0,0,c0.size,0⟩⟩],[.o (.sl (xs++ys).length 0 0 0 sz)],[],J7,⟨⟨_,0,a,N3,?_,zA1 _,rfl,.inl rfl⟩,trivial⟩,rfl,_,rfl,⟨[],⟨by simp,.inr ⟨_,0,0,rfl,?_,[],?_,?_,by simp⟩⟩,trivial⟩,by simp⟩
  ·show 0+0*sz≤0;omega
  ·show (xs++ys).length<(xs++(ys++[_])).length;simp only[List.length_append,List.length_cons,List.length_nil];omega
  ·rw[hhl];rfl
  simp
 
 have hblk:a.spot=none∧∃ c e f,W.heap[a.block]?=some (.cells c e f):=by
  obtain ⟨cs',h1,_⟩:=J2 0 hm0;obtain ⟨_,h2,h3⟩:=World.cells?_some h1;have h4:=h3 0 V3;rw[Nat.zero_mul,Addr.add,zB0 rfl,Addr.add,zB0 rfl,zB4 (by omega)] at h4;unfold World.cell? at h4;split at h4
  ·rename_i c e f hh
   split at h4
   ·cases h4
   rename_i hs
   exact ⟨by cases hq:a.spot with|none=>rfl|some q=>rw[hq] at hs;exact absurd rfl hs,c,e,f,hh⟩
  cases h4
 obtain ⟨hsp,c,e',f',hc⟩:=hblk;obtain ⟨b,o,sp⟩:=a;simp only at hsp hc
 subst hsp;have addA:∀ k:Nat,(⟨b,o,none⟩:Addr).add k=⟨b,o+k,none⟩:=fun k=>by
  unfold Addr.add;split
  ·rename_i h0;rw[h0];rfl
  rfl
 have at_:∀ k j,k<m→j<sz→∀ cs',W.cells? 0 ((⟨b,o,none⟩:Addr).add (k*sz)) sz=some cs'→c[o+(k*sz+j)]?=cs'[j]?:=fun k j hk hj cs' h1=>by
  obtain ⟨_,h2,h3⟩:=World.cells?_some h1;have h4:=h3 j hj;rw[Deep.add_add,addA] at h4;rw[←h4];unfold World.cell?;simp only[hc];rfl
 have hsize:o+m*sz≤c.size:=by
  obtain ⟨cs',h1,_⟩:=J2 (m - 1) (by omega);have h2:=(World.cells?_some h1).2.1;have h3:=at_ (m - 1) (sz - 1) (by omega) (by omega) cs' h1;rw[zB4 (by omega)] at h3;have h4:=(Array.getElem?_eq_some_iff.1 h3).1;have h5:(m - 1)*sz+sz=m*sz:=by rw[←Nat.succ_mul];congr 1;omega
  omega
 have hlm:len*sz≤m*sz:=Nat.mul_le_mul_right _ hl;have B1:py (jz (xs++ys)) W (css.flatMap id) ⟨b,o,c.size,len*sz⟩:=by
  refine ⟨c,e',f',hc,rfl,?_,?_,fun k x W4 T5=>?_⟩
  ·show o+len*sz≤c.size;omega
  ·show len*sz≤_;omega
  have hk3:k<len*sz:=W4;have hq:k / sz<len:=(Nat.div_lt_iff_lt_mul V3).2 hk3;have hr:k % sz<sz:=Nat.mod_lt _ V3;have G3:k=k / sz*sz+k % sz:=by have:=Nat.div_add_mod k sz;rw[Nat.mul_comm] at this;omega
  obtain ⟨c1,cs1,g1,g2,g3⟩:=hk (k / sz) hq;have g4:=at_ (k / sz) (k % sz) (by omega) hr cs1 g2;have g5:=wK hlens g1;have q6:cs1.length=sz:=(World.cells?_some g2).2.1;have g6:c1[k % sz]?=some x:=by
   rw[←g5,List.getElem?_take,zB0 hr,List.getElem?_drop,←G3];exact T5
  rw[←G3,zB4 (by omega)] at g4;exact ⟨_,g4,CRs.get g3 _ _ _ g6 (zB4 (by omega))⟩
 have J7:=xX (r:=⟨css.flatMap id,⟨b,o,c.size,len*sz⟩⟩) V0 B1;have N3:=Ba (xs++ys) ⟨css.flatMap id,⟨b,o,c.size,len*sz⟩⟩;have hhl:=AF (xs++ys) ⟨css.flatMap id,⟨b,o,c.size,len*sz⟩⟩;rw[List.append_assoc] at J7 N3 hhl;have T0:Gr (nz (xs++ys)) (nz (xs++(ys++[some ⟨css.flatMap id,⟨b,o,c.size,len*sz⟩⟩]))):=by rw[←List.append_assoc];exact ux _ _
 refine ⟨ys++[some ⟨css.flatMap id,⟨b,o,c.size,len*sz⟩⟩],[.o (.sl (xs++ys).length 0 0 len sz)],l,J7,⟨⟨_,m,_,N3,?_,hl,rfl,.inr ⟨rfl,?_⟩⟩,trivial⟩,rfl,_,rfl,
  ⟨css,⟨by rw[hll];exact Y9,.inr ⟨_,0,0,by rw[hll],?_,css.flatMap id,?_,?_,?_⟩⟩,p7.mono fun c x ⟨u,v⟩=>⟨u,hR _ _ _ _ _ v T0⟩⟩,by rw[hll];exact hwl⟩
 ·show 0+len*sz≤len*sz;omega
 ·show o+0+m*sz≤c.size;omega
 ·show (xs++ys).length<(xs++(ys++[_])).length;simp only[List.length_append,List.length_cons,List.length_nil];omega
 ·rw[hhl];rfl
 ·rw[hll];omega
 rw[List.drop_zero,hll,List.take_of_length_le (by omega)]
theorem rA {f:α→List AC}:∀ {css:List (List AC)} {l:List α},Al (fun c x=>c=f x) css l→css.flatMap id=l.flatMap f
 | [],[],_=>rfl
 | c::css,x::l,h=>by
  rw[List.flatMap_cons,List.flatMap_cons,rA h.2,←h.1];rfl
 | [],_::_,h=>h.elim
 | _::_,[],h=>h.elim
theorem Al.all {γ:Type} {R:γ→α→Prop} {Q:α→Prop} (hq:∀ c x,R c x→Q x):∀ {cs:List γ} {l:List α},Al R cs l→∀ x∈l,Q x
 | [],[],_,x,hx=>by cases hx
 | c::cs,y::l,h,x,hx=>by
  rcases List.mem_cons.1 hx with rfl|hx
  ·exact hq c _ h.1
  exact Al.all hq h.2 x hx
 | [],_::_,h,_,_=>h.elim
 | _::_,[],h,_,_=>h.elim
end
theorem qB:type_of% (zB3 @TN (zB3 @Ms (zB3 @SD (zB3 @WR (zB3 @Yz (zB3 @Rb (zB3 @Ww (zB3 @WV (zB3 @Xa (zB3 @FL (zB3 @List.map_cons.{0,0} (zB3 @List.map_nil.{0,0} (zB3 @List.getElem?_cons_zero.{0} (zB3 @List.getElem?_cons_succ.{0} (zB3 @Option.elim_some.{1,0} (zB3 @Option.map_some.{0,0} (zB3 @Option.bind_some.{0,0} (zB3 @yM (zB3 @Lc (zB3 @DY (zB3 @LL (zB3 @decide_eq_true_eq (zB3 @decide_true (zB3 @decide_false (zB3 @Ii (zB3 @pt (zB3 @Ts (zB3 @Es (zB3 @EV (zB3 @Fi (zB3 @Hy (zB3 @Ij (zB3 @WB (zB3 @tQ (zB3 @rI (zB3 @wF (zB3 @Lv (zB3 @tJ (zB3 @Nat.add_one_sub_one (zB3 @Nat.one_mul (zB3 @Qc (zB3 @QP (zB3 @GH (zB3 @YM (zB3 @Ys (zB3 @Mo (zB3 @Option.map_none.{0,0} (zB3 @Nat.lt_add_left_iff_pos (zB3 @Nat.zero_lt_succ (zB3 @Nat.le_add_left (zB3 @MA (zB3 @yr (zB3 @MV (zB3 @DA (zB3 @Rr (zB3 @Nl (zB3 @DZ (zB3 @PC (zB3 @PF (zB3 @pG (zB3 @En (zB3 @pX (zB3 @Gs (zB3 @wB (zB3 @tN (zB3 @tz (zB3 @vR (zB3 @qF (zB3 @Gi (zB3 @oK (zB3 @QF (zB3 @xV (zB3 @Li (zB3 @oV (zB3 @Ku (zB3 @PX (zB3 @Ln (zB3 @Rc (zB3 @MO (zB3 @Kw (zB3 @WY (zB3 @Ef (zB3 @Lk (zB3 @aa (zB3 @aE (zB3 @Aj (zB3 @ak (zB3 @Nat.blt_eq (zB3 @true_and (zB3 @and_true (zB3 @true_or (zB3 @or_true (zB3 @if_true.{1} (zB3 @if_false.{1} (zB3 @Bool.false_eq_true (zB3 @Bool.true_eq_false (zB3 @not_false_eq_true (zB3 @not_true_eq_false (zB3 @Mp (zB3 @Bf (zB3 @uf (zB3 @LC (zB3 @Xb (zB3 @gN (zB3 @mb (zB3 @aG (zB3 @aZ (zB3 @aj (zB3 @az (zB3 @Mn (zB3 @RL (zB3 @Yy (zB3 @Yw (zB3 @Xd (zB3 @WZ (zB3 @MB (zB3 @MD (zB3 @YW (zB3 @YN (zB3 @fi (zB3 @td (zB3 @cy (zB3 @EC (zB3 @pJ (zB3 @uj (zB3 @Mh (zB3 @fz (zB3 @qt (zB3 @Bool.not_eq_true' (zB3 @Bool.not_eq_false' (zB3 @decide_eq_false_iff_not (zB3 @ne_eq.{1} (zB3 @Nat.lt_irrefl (zB3 @gt_iff_lt.{0} (zB3 @AG (zB3 @AY (zB3 @zO (zB3 @AK (zB3 @List.length_cons.{0} (zB3 @List.length_nil.{0} (zB3 @Nat.zero_add (zB3 @Nat.add_zero (zB3 @Nat.le_refl (zB3 @Nat.zero_le (zB3 @vu (zB3 @tA (zB3 @tp (zB3 @pO (zB3 @List.cons_append.{0} (zB3 @List.nil_append.{0} (zB3 @List.append_nil.{0} (zB3 @YC (zB3 @Xc (zB3 @YV (zB3 @WH (zB3 @YR (zB3 @WM (zB3 @To (zB3 @SQ (zB3 @PZ (zB3 @TD (zB3 @Tt (zB3 @Rs (zB3 @SV (zB3 @TE (zB3 @TO (zB3 @Sr (zB3 @Ti (zB3 @QM (zB3 @RH (zB3 @Pf (zB3 @QN (zB3 @List.take_succ_cons.{0} (zB3 @List.take_zero.{0} (zB3 @List.drop_succ_cons.{0} (zB3 @List.drop_zero.{0} (zB3 @List.take_nil.{0} (zB3 @List.drop_nil.{0} (zB3 @List.headD_cons.{0} (zB3 @Bool.not_true (zB3 @Bool.not_false (zB3 @Nat.lt_add_one (zB3 @Mt (zB3 @Wv (zB3 @FD (zB3 @Kd (zB3 @rY (zB3 @Df (zB3 @Db (zB3 @De (zB3 @AI (zB3 @FQ (zB3 @xS (zB3 @Nat.zero_mul (zB3 @vP (zB3 @tl (zB3 @rj (zB3 @xP (zB3 @pI (zB3 @DH (zB3 @Dy (zB3 @Ua (zB3 @ri (zB3 @xT (zB3 @yQ (zB3 @zU (zB3 @tu (zB3 @qQ (zB3 @rh (zB3 @LM (@KT))))))))))))))))))))))))))))))))))))))))))))))))))))))))))))))))))))))))))))))))))))))))))))))))))))))))))))))))))))))))))))))))))))))))))))))))))))))))))))))))))))))))))))))))))))))))))))))))))))))))))))))))))):=zB3 @TN (zB3 @Ms (zB3 @SD (zB3 @WR (zB3 @Yz (zB3 @Rb (zB3 @Ww (zB3 @WV (zB3 @Xa (zB3 @FL (zB3 @List.map_cons.{0,0} (zB3 @List.map_nil.{0,0} (zB3 @List.getElem?_cons_zero.{0} (zB3 @List.getElem?_cons_succ.{0} (zB3 @Option.elim_some.{1,0} (zB3 @Option.map_some.{0,0} (zB3 @Option.bind_some.{0,0} (zB3 @yM (zB3 @Lc (zB3 @DY (zB3 @LL (zB3 @decide_eq_true_eq (zB3 @decide_true (zB3 @decide_false (zB3 @Ii (zB3 @pt (zB3 @Ts (zB3 @Es (zB3 @EV (zB3 @Fi (zB3 @Hy (zB3 @Ij (zB3 @WB (zB3 @tQ (zB3 @rI (zB3 @wF (zB3 @Lv (zB3 @tJ (zB3 @Nat.add_one_sub_one (zB3 @Nat.one_mul (zB3 @Qc (zB3 @QP (zB3 @GH (zB3 @YM (zB3 @Ys (zB3 @Mo (zB3 @Option.map_none.{0,0} (zB3 @Nat.lt_add_left_iff_pos (zB3 @Nat.zero_lt_succ (zB3 @Nat.le_add_left (zB3 @MA (zB3 @yr (zB3 @MV (zB3 @DA (zB3 @Rr (zB3 @Nl (zB3 @DZ (zB3 @PC (zB3 @PF (zB3 @pG (zB3 @En (zB3 @pX (zB3 @Gs (zB3 @wB (zB3 @tN (zB3 @tz (zB3 @vR (zB3 @qF (zB3 @Gi (zB3 @oK (zB3 @QF (zB3 @xV (zB3 @Li (zB3 @oV (zB3 @Ku (zB3 @PX (zB3 @Ln (zB3 @Rc (zB3 @MO (zB3 @Kw (zB3 @WY (zB3 @Ef (zB3 @Lk (zB3 @aa (zB3 @aE (zB3 @Aj (zB3 @ak (zB3 @Nat.blt_eq (zB3 @true_and (zB3 @and_true (zB3 @true_or (zB3 @or_true (zB3 @if_true.{1} (zB3 @if_false.{1} (zB3 @Bool.false_eq_true (zB3 @Bool.true_eq_false (zB3 @not_false_eq_true (zB3 @not_true_eq_false (zB3 @Mp (zB3 @Bf (zB3 @uf (zB3 @LC (zB3 @Xb (zB3 @gN (zB3 @mb (zB3 @aG (zB3 @aZ (zB3 @aj (zB3 @az (zB3 @Mn (zB3 @RL (zB3 @Yy (zB3 @Yw (zB3 @Xd (zB3 @WZ (zB3 @MB (zB3 @MD (zB3 @YW (zB3 @YN (zB3 @fi (zB3 @td (zB3 @cy (zB3 @EC (zB3 @pJ (zB3 @uj (zB3 @Mh (zB3 @fz (zB3 @qt (zB3 @Bool.not_eq_true' (zB3 @Bool.not_eq_false' (zB3 @decide_eq_false_iff_not (zB3 @ne_eq.{1} (zB3 @Nat.lt_irrefl (zB3 @gt_iff_lt.{0} (zB3 @AG (zB3 @AY (zB3 @zO (zB3 @AK (zB3 @List.length_cons.{0} (zB3 @List.length_nil.{0} (zB3 @Nat.zero_add (zB3 @Nat.add_zero (zB3 @Nat.le_refl (zB3 @Nat.zero_le (zB3 @vu (zB3 @tA (zB3 @tp (zB3 @pO (zB3 @List.cons_append.{0} (zB3 @List.nil_append.{0} (zB3 @List.append_nil.{0} (zB3 @YC (zB3 @Xc (zB3 @YV (zB3 @WH (zB3 @YR (zB3 @WM (zB3 @To (zB3 @SQ (zB3 @PZ (zB3 @TD (zB3 @Tt (zB3 @Rs (zB3 @SV (zB3 @TE (zB3 @TO (zB3 @Sr (zB3 @Ti (zB3 @QM (zB3 @RH (zB3 @Pf (zB3 @QN (zB3 @List.take_succ_cons.{0} (zB3 @List.take_zero.{0} (zB3 @List.drop_succ_cons.{0} (zB3 @List.drop_zero.{0} (zB3 @List.take_nil.{0} (zB3 @List.drop_nil.{0} (zB3 @List.headD_cons.{0} (zB3 @Bool.not_true (zB3 @Bool.not_false (zB3 @Nat.lt_add_one (zB3 @Mt (zB3 @Wv (zB3 @FD (zB3 @Kd (zB3 @rY (zB3 @Df (zB3 @Db (zB3 @De (zB3 @AI (zB3 @FQ (zB3 @xS (zB3 @Nat.zero_mul (zB3 @vP (zB3 @tl (zB3 @rj (zB3 @xP (zB3 @pI (zB3 @DH (zB3 @Dy (zB3 @Ua (zB3 @ri (zB3 @xT (zB3 @yQ (zB3 @zU (zB3 @tu (zB3 @qQ (zB3 @rh (zB3 @LM (@KT))))))))))))))))))))))))))))))))))))))))))))))))))))))))))))))))))))))))))))))))))))))))))))))))))))))))))))))))))))))))))))))))))))))))))))))))))))))))))))))))))))))))))))))))))))))))))))))))))))))))))))))))))
theorem qD:type_of% (zB3 @yJ (zB3 @Dx (zB3 @GU (zB3 @Mx (zB3 @PO (zB3 @Qp (zB3 @WC (zB3 @Lo (zB3 @FY (zB3 @KR (zB3 @PG (zB3 @Mr (zB3 @zh (zB3 @Nf (zB3 @Ds (zB3 @SN (zB3 @FH (zB3 @KK (zB3 @HE (zB3 @rQ (zB3 @pY (zB3 @Gl (zB3 @vz (zB3 @GJ (zB3 @oL (zB3 @tw (zB3 @Hb (zB3 @Ui (zB3 @RV (zB3 @LF (zB3 @yV (zB3 @PB (zB3 @Lh (zB3 @Hf (zB3 @AQ (zB3 @Af (zB3 @xI (zB3 @oM (zB3 @oD (zB3 @FU (zB3 @EU (zB3 @Im (zB3 @Hl (zB3 @FR (zB3 @Hr (zB3 @List.not_mem_nil.{0} (zB3 @List.mem_singleton.{0} (zB3 @Option.some.injEq.{0} (@exists_eq_left'.{1}))))))))))))))))))))))))))))))))))))))))))))))))):=zB3 @yJ (zB3 @Dx (zB3 @GU (zB3 @Mx (zB3 @PO (zB3 @Qp (zB3 @WC (zB3 @Lo (zB3 @FY (zB3 @KR (zB3 @PG (zB3 @Mr (zB3 @zh (zB3 @Nf (zB3 @Ds (zB3 @SN (zB3 @FH (zB3 @KK (zB3 @HE (zB3 @rQ (zB3 @pY (zB3 @Gl (zB3 @vz (zB3 @GJ (zB3 @oL (zB3 @tw (zB3 @Hb (zB3 @Ui (zB3 @RV (zB3 @LF (zB3 @yV (zB3 @PB (zB3 @Lh (zB3 @Hf (zB3 @AQ (zB3 @Af (zB3 @xI (zB3 @oM (zB3 @oD (zB3 @FU (zB3 @EU (zB3 @Im (zB3 @Hl (zB3 @FR (zB3 @Hr (zB3 @List.not_mem_nil.{0} (zB3 @List.mem_singleton.{0} (zB3 @Option.some.injEq.{0} (@exists_eq_left'.{1}))))))))))))))))))))))))))))))))))))))))))))))))
def jB (c:List AC):List Nat:=c.flatMap fun a=>(AV.one a).ids
theorem wZ:jB []=[]:=rfl
theorem sO (a:AC) (c:List AC):jB (a::c)=(AV.one a).ids++jB c:=rfl
theorem Pq (k:IntKind) (n:Int):(AV.one (.i k n)).ids=[]:=rfl
theorem KU (s:List UInt8):(AV.one (.o (.str s))).ids=[]:=rfl
section
variable {α:Type}
def FrR (R:Hp→List AC→α→Prop):Prop:=∀ (Y:Nat→Prop) (H H':Hp) (c:List AC) (x:α),R H c x→Fr Y H H'→(∀ id∈jB c,¬Y id)→R H' c x
def LtR (R:Hp→List AC→α→Prop):Prop:=∀ (H:Hp) (c:List AC) (x:α),R H c x→∀ id∈jB c,id<H.nx
structure bx (R:Hp→List AC→α→Prop) (sz:Nat) (e:TypeId) (X:Nat→Prop) (H:Hp) (v:AC) (l:List α) (r:Option Nat):Prop where
 row:∀ q,r=some q→¬X q∧q<H.nx
 own:∃ css:List (List AC),eU H v e sz l.length (css.flatMap id) r∧Al (fun c x=>c.length=sz∧R H c x∧∀ id∈jB c,¬X id∧some id≠r) css l
theorem eU.rlt {H:Hp} {v:AC} {e:TypeId} {sz n:Nat} {cells:List AC} {q:Nat} (h:eU H v e sz n cells (some q)):q<H.nx:=by
 rcases h with ⟨_,_,_,e⟩|⟨id,lo,gen,e,_,_,_,_,hl⟩
 ·cases e
 cases e;exact hl
theorem bx.nil {R:Hp→List AC→α→Prop} {sz:Nat} {e:TypeId} {X:Nat→Prop} {H:Hp}:bx R sz e X H (.o .nilS) [] none where
 row:=fun q hq=>by cases hq
 own:=⟨[],.inl ⟨rfl,rfl,rfl,rfl⟩,trivial⟩
theorem bx.fr {R:Hp→List AC→α→Prop} (hR:FrR R) (hl:LtR R) {sz:Nat} {e:TypeId} {X Y:Nat→Prop} {H H':Hp} {v:AC} {l:List α} {r:Option Nat} (h:bx R sz e X H v l r) (hf:Fr Y H H') (hy:∀ i,Y i→X i∨H.nx≤i):bx R sz e X H' v l r where
 row:=fun q hq=>⟨(h.row q hq).1,zA0 (h.row q hq).2 hf.nx⟩
 own:=by
  obtain ⟨css,a,b⟩:=h.own;refine ⟨css,a.fr hf fun i hi hyi=>?_,b.mono fun c x ⟨h1,h2,h3⟩=>⟨h1,hR _ _ _ _ _ h2 hf fun i hi hyi=>?_,h3⟩⟩
  ·have:=h.row i hi;rcases hy i hyi with h|h
   ·exact this.1 h
   omega
  have h4:=hl _ _ _ h2 i hi;rcases hy i hyi with h|h
  ·exact (h3 i hi).1 h
  omega
theorem bx.gr {R:Hp→List AC→α→Prop} (hR:FrR R) (hl:LtR R) {sz:Nat} {e:TypeId} {X:Nat→Prop} {H H':Hp} {v:AC} {l:List α} {r:Option Nat} (h:bx R sz e X H v l r) (hf:Gr H H'):bx R sz e X H' v l r:=h.fr hR hl hf fun _ h=>h.elim
theorem bx.WW {R:Hp→List AC→α→Prop} (hl:LtR R) {sz:Nat} {e:TypeId} {X:Nat→Prop} {H:Hp} {v:AC} {l:List α} {r:Option Nat} (h:bx R sz e X H v l r):bx R sz e (fun i=>X i∨H.nx≤i) H v l r where
 row:=fun q hq=>⟨fun hh=>hh.elim (h.row q hq).1 fun hh=>by have:=(h.row q hq).2;omega,(h.row q hq).2⟩
 own:=by
  obtain ⟨css,a,b⟩:=h.own;exact ⟨css,a,b.mono fun c x ⟨h1,h2,h3⟩=>⟨h1,h2,fun i hi=>⟨fun hh=>hh.elim (h3 i hi).1 fun hh=>by have:=hl _ _ _ h2 i hi;omega,(h3 i hi).2⟩⟩⟩
theorem bx.less {R:Hp→List AC→α→Prop} {sz:Nat} {e:TypeId} {X X':Nat→Prop} {H:Hp} {v:AC} {l:List α} {r:Option Nat} (h:bx R sz e X H v l r) (hx:∀ i,X' i→X i):bx R sz e X' H v l r where
 row:=fun q hq=>⟨fun hh=>(h.row q hq).1 (hx _ hh),(h.row q hq).2⟩
 own:=by
  obtain ⟨css,a,b⟩:=h.own;exact ⟨css,a,b.mono fun c x ⟨h1,h2,h3⟩=>⟨h1,h2,fun i hi=>⟨fun hh=>(h3 i hi).1 (hx _ hh),(h3 i hi).2⟩⟩⟩
theorem bx.slr {R:Hp→List AC→α→Prop} {sz:Nat} {e:TypeId} {X:Nat→Prop} {H:Hp} {v:AC} {l:List α} {r:Option Nat} (h:bx R sz e X H v l r):SlR R sz H v l:=by
 obtain ⟨css,a,b⟩:=h.own;exact ⟨css,a.slc,b.mono fun c x ⟨h1,h2,_⟩=>⟨h1,h2⟩⟩
theorem bx.lt {R:Hp→List AC→α→Prop} {sz:Nat} {e:TypeId} {X:Nat→Prop} {H:Hp} {v:AC} {l:List α} {r:Option Nat} (h:bx R sz e X H v l r):ltV (.one v) H.nx:=by
 obtain ⟨css,a,b⟩:=h.own;exact a.lt
theorem bx.push {P:Program} {R:Hp→List AC→α→Prop} (hR:FrR R) (hl:LtR R) {H:Hp} {t e:TypeId} {sz by_:Nat} {z:Value} {X:Nat→Prop} {v:AC} {l:List α} {r:Option Nat} (he:bm P t=some (e,sz)) (hb:cB P e=some by_) (hz:aB P e=some z) (L1:(ofValue z).cells.length=sz) (G1:sz≠0)
  (ho:bx R sz e X H v l r) (hX:∀ i,X i→i<H.nx) {c0:List AC} {x:α} (B6:c0.length=sz) (hx:R H c0 x) (hi:∀ id∈jB c0,¬X id∧some id≠r) (hL:l.length+1≤140737488355328∧(l.length+1)*by_≤140737488355328):
  ltV (.one v) (H.new (.arr c0 e 0 0)).nx∧∃ v' H' r',aV P (H.new (.arr c0 e 0 0)) t (.one v) (.one (.o (.sl H.nx 0 0 1 sz)))=.val (.one v') H' ∧
   bx R sz e X H' v' (l++[x]) (some r')∧Fr (fun i=>r=some i) H H'∧(r=some r'∨H.nx≤r'):=by
 obtain ⟨css,a,b⟩:=ho.own;obtain ⟨D0,v',H',r',Q1,Z1,hf,hr⟩:=js he hb hz L1 G1 a c0 B6 hL;have keep:∀ c y,c.length=sz∧R H c y∧(∀ id∈jB c,¬X id∧some id≠r)→c.length=sz∧R H' c y∧∀ id∈jB c,¬X id∧some id≠some r':=fun c y ⟨h1,h2,h3⟩=>by
  refine ⟨h1,hR _ _ _ _ _ h2 hf fun i hi e=>(h3 i hi).2 e.symm,fun i hi=>⟨(h3 i hi).1,fun e=>?_⟩⟩;cases e
  rcases hr with h|h
  ·exact (h3 _ hi).2 h.symm
  have:=hl _ _ _ h2 _ hi;omega
 refine ⟨D0,v',H',r',Q1,⟨fun q hq=>?_,css++[c0],?_,Al.app (b.mono keep) (keep _ _ ⟨B6,hx,hi⟩)⟩,hf,hr⟩
 ·cases hq
  refine ⟨fun hh=>?_,Z1.rlt⟩;rcases hr with h|h
  ·exact (ho.row _ h).1 hh
  have:=hX _ hh;omega
 rw[List.flatMap_append,List.length_append];have e1:([c0]:List (List AC)).flatMap id=c0:=by simp
 rw[e1];exact Z1
end
def Mk (bs:List Bool) (n:Nat) (S:List Int):Prop:=bs.length=n∧∀ j:Nat,j<n→bs.getD j false=S.any fun x=>x==(j:Int)
theorem unU {m:Nat} {did:List DSy} {H:Hp} (h:aR m did=[]):∀ i,i<H.nx→bJ i (aR m did):=fun i _=>by rw[h];trivial
theorem Oh {P:Program} {W:World} {r:Reach} {base:Nat} {u:TypeId} {a:Addr} {l c:Nat} (h:Cell.okWide P W r base u (.slice (some a) l c)):nj W:=by
 have h2:Cell.ok P W r base u (.slice (some a) l c):=by
  unfold Cell.okWide at h;cases hu:P.underlying u with
  | none=>rw[hu] at h;exact h
  | some d=>rw[hu] at h;cases d <;> exact h
 unfold Cell.ok at h2;cases hu:P.underlying u with
 | none=>rw[hu] at h2;exact h2.elim
 | some d=>
  rw[hu] at h2;cases d
  case slice e=>
   obtain ⟨_,_,_,_,row,cells,G8,_⟩:=h2;unfold World.shape? at G8;split at G8
   ·rename_i c e f hh;exact ⟨_,c,e,f,hh⟩
   cases G8
  all_goals exact h2.elim
section
variable {P:Program} {W:World} {α β:Type}
def Yr (cs:List Value):Prop:=∀ v∈cs,∀ a l c,v≠.slice (some a) l c
def JO (P:Program) (W:World) (sz:Nat) (R:Nat→Hp→List AC→α→Prop) (t:TypeId):Prop:=
 ∀ (H:Type) (enc:TypeId×Value→H) (fuel:Nat) (cs:List Value) (d:DataW H) (p:List MemPlace) (B:Nat),
  DataW.trod enc P W 0 (fun _=>true) true fuel t cs=some (d,p)→(∀ n∈d.weights P t,n≤B)→Yr cs →
  ∀ xs,fh W xs→∃ ys c x,fh W (xs++ys)∧CRs (jz (xs++ys)) c cs∧c.length=sz∧R B (nz (xs++ys)) c x
theorem Opn.z {sz:Nat} {R:Nat→Hp→List AC→α→Prop} {t:TypeId} (h:Opn P W sz R t):JO P W sz R t:=fun H enc fuel cs d p B hd hw _ xs hx=>h H enc fuel cs d p B hd hw xs hx
theorem pB {sz:Nat} {R:Nat→Hp→List AC→α→Prop} {t e:TypeId} (ht:P.underlying t=some (.slice e)):JO P W 1 (xE P e sz R) t:=by
 intro H enc fuel cs d p B hd hw hz xs hx;rcases Deep.open_slice ht hd with ⟨rfl,e1⟩|⟨a,len,cap,m,n,D,Pl,rfl,_⟩
 ·exact ⟨[],[.o .nilS],[],by rwa [List.append_nil],⟨rfl,trivial⟩,rfl,.o .nilS,rfl,⟨[],⟨by simp,.inl ⟨rfl,rfl⟩⟩,trivial⟩,by simp⟩
 exact absurd rfl (hz _ (List.mem_singleton.2 rfl) a len cap)
def LV (P:Program) (W:World) (sz:Nat) (R:Nat→Hp→List AC→α→Prop) (ts:List TypeId):Prop:=
 ∀ (H:Type) (enc:TypeId×Value→H) (n:Nat) (cs:List Value) (ys:List (DataW H×List MemPlace)) (B:Nat),
  Ma enc P W n ts cs ys→(∀ n∈DataW.weightsEach P ts (ys.map (·.1)),n≤B)→Yr cs →
  ∀ xs,fh W xs→∃ rs c x,fh W (xs++rs)∧CRs (jz (xs++rs)) c cs∧c.length=sz∧R B (nz (xs++rs)) c x
theorem xY {sz:Nat} {R:Nat→Hp→List AC→α→Prop} {t:TypeId} (h:JO P W sz R t):LV P W sz R [t]:=by
 intro H enc n cs ys B hp hw hz xs hx;match ys,hp with
 | [y],⟨h1,h2,h3⟩=>
  have E9:cs.drop (P.cellsOf t)=[]:=h3;have e:cs.take (P.cellsOf t)=cs:=by have:=List.take_append_drop (P.cellsOf t) cs;rwa [E9,List.append_nil] at this
  rw[e] at h2;exact h H enc n cs y.1 y.2 B h2 (fun n hn=>hw n (by simp[DataW.weightsEach,hn])) hz xs hx
theorem pr {sz sz':Nat} {R:Nat→Hp→List AC→α→Prop} {S:Nat→Hp→List AC→β→Prop} {t:TypeId} {ts:List TypeId} (h:JO P W sz R t) (hR:jZ R) (hs:LV P W sz' S ts):LV P W (sz+sz') (fw R S) (t::ts):=by
 intro H enc n cs ys B hp hw hz xs hx;match ys,hp with
 | y::ys,⟨h1,h2,h3⟩=>
  obtain ⟨r1,c1,x1,a1,a2,a3,a4⟩:=h H enc n _ y.1 y.2 B h2 (fun n hn=>hw n (by simp[DataW.weightsEach,hn])) (fun v hv=>hz v (List.mem_of_mem_take hv)) xs hx;obtain ⟨r2,c2,x2,b1,b2,b3,b4⟩:=hs H enc n _ ys B h3 (fun n hn=>hw n (by simp only[List.map_cons,DataW.weightsEach,List.mem_append];exact .inr hn)) (fun v hv=>hz v (List.mem_of_mem_drop hv)) (xs++r1) a1;rw[List.append_assoc] at b1 b2 b4;refine ⟨r1++r2,c1++c2,(x1,x2),b1,?_,by rw[List.length_append,a3,b3],c1,c2,rfl,?_,b4⟩
  ·have:=CRs.append (CRs.mono (by rw[←List.append_assoc];exact mN _ _) a2) b2;rwa [List.take_append_drop] at this
  exact hR _ _ _ _ _ a4 (by rw[←List.append_assoc];exact ux _ _)
theorem tx {sz:Nat} {R:Nat→Hp→List AC→α→Prop} {t:TypeId} {fs:Array Field} {ts:List TypeId} (ht:P.underlying t=some (.struct fs)) (ho:rW P (P.cellsOf t) 0 fs.toList=true) (hts:fs.toList.map (·.type)=ts) (h:LV P W sz R ts):JO P W sz R t:=by
 intro H enc fuel cs d p B hd hw hz xs hx;obtain ⟨ys,n,_,e,hl,hyl,hf⟩:=DataW.trod_struct ht hd;cases e
 rw[←hl] at ho;have hp:=vK (enc:=enc) (W:=W) (n:=n) (cs:=cs) fs.toList 0 ys ho (by rw[hyl];simp) (fun i f hi=>hf i f (by simpa using hi));rw[hts,List.drop_zero] at hp;refine h H enc n cs ys B hp (fun k hk=>hw k ?_) hz xs hx;simp only[DataW.weights,ht];rwa [hts]
theorem PV {sz:Nat} {R:Nat→Hp→List AC→α→Prop} {t:TypeId} {fs:Array Field} {v:Value} {base B:Nat} {H:Type} {enc:TypeId×Value→H} {d:DataW H} {p:List MemPlace} (ht:P.underlying t=some (.struct fs)) (hO:nj W→Opn P W sz R t) (hZ:JO P W sz R t)
  (F9:Value.okWide P W .any base t v) (hd:DataW.Trod enc P W 0 (fun _=>true) true t v d p) (hw:∀ n∈d.weights P t,n≤B) (xs:List (Option jA)) (hx:fh W xs):
  ∃ ys c l,fh W (xs++ys)∧AR (jz (xs++ys)) (.agg c) v∧c.length=sz∧R B (nz (xs++ys)) c l:=by
 obtain ⟨fuel,hf⟩:=hd;have hval':∃ cs,v=.agg cs∧cs.size=P.cellsOf t∧Row.okWide P W .any base t cs:=by
  simp only[Value.okWide,ht] at F9;exact F9
 obtain ⟨cs,rfl,G1,B1⟩:=hval';have hcells:(Value.agg cs).cells.toList=cs.toList:=rfl;rw[hcells] at hf;by_cases hB:nj W
 ·obtain ⟨ys,c,l,h1,h2,h3,h4⟩:=hO hB H enc fuel _ d p B hf hw xs hx;exact ⟨ys,c,l,h1,⟨_,h2,by simp⟩,h3,h4⟩
 obtain ⟨ys,c,l,h1,h2,h3,h4⟩:=hZ H enc fuel _ d p B hf hw (fun w hw a l c e=>hB (by
  obtain ⟨i,hi⟩:=List.mem_iff_getElem?.1 hw;obtain ⟨ts,_,_,hr⟩:=B1;obtain ⟨u,_,hu⟩:=hr i w (by rw[←Array.getElem?_toList];exact hi);rw[e] at hu;exact Oh hu)) xs hx
 exact ⟨ys,c,l,h1,⟨_,h2,by simp⟩,h3,h4⟩
theorem Rq {t:TypeId} (ht:P.underlying t=some .bool):Opn P W 1 TQ t:=by
 intro H enc fuel cs d p B h hw xs hx;obtain ⟨b,rfl,e,_⟩:=DataW.trod_bool ht h;exact ⟨[],[.b b],b,by rwa [List.append_nil],⟨rfl,trivial⟩,rfl,rfl⟩
theorem Sz:jZ TQ:=fun _ _ _ _ _ h _=>h
end
theorem nD {P:Program} {tm:PT AV} {H:Hp} {o:Oper} {v:Value} (hx:(o.op.operands.toList.all fun x=>(ev tm x).val?.isSome)=true) (he:aw P (execOp (fun x=>aY (ev tm x)) o)=some (.value v)) (Y1:okV v=true):
  an P tm H o=.val (ofValue v) H:=by
 unfold an;rw[hx,he];show aH true _ (aH (okV v) _ _)=_;rw[Y1];rfl
def Wl (f:IntKind→Int→AC) (H:Hp) (alt:ad) (x:AV):ad:=match x with|.one (.i k a)=>.val (.one (f k a)) H|_=>alt
def qu (p:Int→Int→Prop) [∀ a b,Decidable (p a b)] (f:IntKind→Int→Int→AC) (H:Hp) (alt:ad) (x y:AV):ad:=
 match x,y with|.one (.i k a),.one (.i k' b)=>if k=k'∧p a b then .val (.one (f k a b)) H else alt|_,_=>alt
theorem IH {p:Int→Int→Prop} [∀ a b,Decidable (p a b)] {f:IntKind→Int→Int→AC} {H:Hp} {alt:ad} {k:IntKind} {a b:Int} (h:p a b):qu p f H alt (.one (.i k a)) (.one (.i k b))=.val (.one (f k a b)) H:=zB0 ⟨rfl,h⟩
variable {P:Program} {tm:PT AV} {H:Hp} {d:Option Tmp} {ty:TypeId} {pos:String} {af:Array Edge} {g:Option (Nat×Bool)}
theorem lJ {x:AV} {k:IntKind} {a:Int} (h:x=.one (.i k a)):aY x=.int k a:=by subst h;rfl
theorem OV {t c:TypeId} {x y:Operand}:an P tm H ⟨d,.binOp .quo t x y c,ty,pos,af,g⟩=qu (fun _ b=>b≠0) (fun k a b=>.i k (k.wrap (a.tdiv b))) H (bD P tm H ⟨d,.binOp .quo t x y c,ty,pos,af,g⟩) (ev tm x) (ev tm y):=by
 unfold qu;split
 ·rename_i k a k' b hx hy
  by_cases h:k=k'∧b≠0
  ·rw[zB0 h];obtain ⟨rfl,hb⟩:=h;refine nD (v:=.int k (k.wrap (a.tdiv b))) ?_ ?_ rfl
   ·show ([x,y].all fun x=>(ev tm x).val?.isSome)=true;simp only[List.all_cons,List.all_nil,hx,hy];rfl
   show aw P (Sem.bind (Sem.bind (eqGuard .quo t x y (aY (ev tm x)) (aY (ev tm y))) fun _=>binOp .quo t (aY (ev tm x)) (aY (ev tm y))) fun v=>Sem.pure (Next.value v))=_;rw[lJ hx,lJ hy];have e:binOp .quo t (.int k a) (.int k b)=pure (.int k (k.wrap (a.tdiv b))):=by
    show (if k≠k then _ else Op.intDiv .quo k a b)=_;rw[zB1 (by simp)];unfold Op.intDiv;rw[zB1 hb]
   show aw P (Sem.bind (binOp .quo t (.int k a) (.int k b)) fun v=>Sem.pure (Next.value v))=_;rw[e];rfl
  rw[zB1 h];rfl
 rfl
theorem Of {t c:TypeId} {x y:Operand}:an P tm H ⟨d,.binOp .rem t x y c,ty,pos,af,g⟩=qu (fun _ b=>b≠0) (fun k a b=>.i k (a.tmod b)) H (bD P tm H ⟨d,.binOp .rem t x y c,ty,pos,af,g⟩) (ev tm x) (ev tm y):=by
 unfold qu;split
 ·rename_i k a k' b hx hy
  by_cases h:k=k'∧b≠0
  ·rw[zB0 h];obtain ⟨rfl,hb⟩:=h;refine nD (v:=.int k (a.tmod b)) ?_ ?_ rfl
   ·show ([x,y].all fun x=>(ev tm x).val?.isSome)=true;simp only[List.all_cons,List.all_nil,hx,hy];rfl
   show aw P (Sem.bind (Sem.bind (eqGuard .rem t x y (aY (ev tm x)) (aY (ev tm y))) fun _=>binOp .rem t (aY (ev tm x)) (aY (ev tm y))) fun v=>Sem.pure (Next.value v))=_;rw[lJ hx,lJ hy];have e:binOp .rem t (.int k a) (.int k b)=pure (.int k (a.tmod b)):=by
    show (if k≠k then _ else Op.intDiv .rem k a b)=_;rw[zB1 (by simp)];unfold Op.intDiv;rw[zB1 hb]
   show aw P (Sem.bind (binOp .rem t (.int k a) (.int k b)) fun v=>Sem.pure (Next.value v))=_;rw[e];rfl
  rw[zB1 h];rfl
 rfl
theorem JC {s t:TypeId} {ks kt:IntKind} {x:Operand} (hs:P.underlying s=some (.int ks)) (ht:P.underlying t=some (.int kt)):
  an P tm H ⟨d,.convert s t x,ty,pos,af,g⟩=Wl (fun _ a=>.i kt (kt.wrap a)) H (bD P tm H ⟨d,.convert s t x,ty,pos,af,g⟩) (ev tm x):=by
 unfold Wl;split
 ·rename_i k a hx
  refine nD (v:=.int kt (kt.wrap a)) ?_ ?_ rfl
  ·show ([x].all fun x=>(ev tm x).val?.isSome)=true;simp only[List.all_cons,List.all_nil,hx];rfl
  show aw P (Sem.bind (convert s t (aY (ev tm x))) fun v=>Sem.pure (Next.value v))=_;rw[lJ hx,aN];unfold convert;rw[ba,bL hs];simp only[Option.bind_some];rw[ba,bL ht];rfl
 rfl
theorem XZ {kd:Nat} {k k':IntKind} {a b:Int} {alt:ad}:bp H kd .rem (dV .rem) (.one (.i k a)) (.one (.i k' b)) alt=alt:=by cases k <;> cases k' <;> rfl
theorem XU {kd:Nat} {k k':IntKind} {a b:Int} {alt:ad}:bp H kd .quo (dV .quo) (.one (.i k a)) (.one (.i k' b)) alt=alt:=by cases k <;> cases k' <;> rfl
def Hd (p:Prop):Prop:=p
theorem Hd.out {p:Prop} (h:Hd p):p:=h
theorem qA {a b:Prop} (h:a) (k:b):a∧b:=⟨h,k⟩
inductive WK (E:Env) (r:Option Nat) (Q:ax→ab→Hp→Prop) (B:ab) (H:Hp):Code→Prop
 | ret:Q .ret B H→WK E r Q B H .ret
 | exit (id:Nat):Q (.exit id) B H→WK E r Q B H (.exit id)
 | skip:Q .normal B H→WK E r Q B H .skip
 | mJ (z:Code):Q .ret B H→WK E r Q B H (.seq .ret z)
 | iU (id:Nat) (z:Code):Q (.exit id) B H→WK E r Q B H (.seq (.exit id) z)
 | aA (x y z:Code):R1 E r (.seq x (.seq y z)) B H Q→WK E r Q B H (.seq (.seq x y) z)
 | bg (z:Code):R1 E r z B H Q→WK E r Q B H (.seq .skip z)
 | fD (x z:Code):R1 E r (.seq x z) B H Q→WK E r Q B H (.seq (.scope x) z)
section
variable {E:Env} {r:Option Nat} {c z:Code} {B:ab} {H:Hp} {Q:ax→ab→Hp→Prop}
theorem R1.w (h:WK E r Q B H c):R1 E r c B H Q:=by
 cases h with
 | ret h=>exact R1.ret h
 | exit id h=>exact R1.exit h
 | skip h=>exact R1.skip h
 | mJ z h=>exact R1.mJ h
 | iU id z h=>exact R1.iU h
 | aA x y z h=>exact R1.aA h
 | bg z h=>exact R1.bg h
 | fD x z h=>exact R1.fD h
theorem R1.s_r {id:Nat} {ops:Array Oper} {dr:Bool} (hs:(bif dr then mf false ops else true)=true) (h:∀ K:ab→Hp→Prop,(∀ B H,R1 E r z B H Q→K B H)→SG false E K (ops.toList.map fun o=>gOf ops.toList o.guard) ops.toList B H):R1 E r (.seq (.region id ops dr) z) B H Q:=by
 cases dr with
 | true=>exact R1.xG hs h
 | false=>exact R1.oy h
theorem R1.e_r {id:Nat} {ops:Array Oper} {dr:Bool} (hs:(bif dr then mf false ops else true)=true) (h:∀ K:ab→Hp→Prop,(∀ B H,Q .normal B H→K B H)→SG false E K (ops.toList.map fun o=>gOf ops.toList o.guard) ops.toList B H):R1 E r (.region id ops dr) B H Q:=by
 cases dr with
 | true=>exact R1.Br hs h
 | false=>exact R1.xA h
end
theorem qW {p a b:Prop} (f:p) (hb:b) (e:p→Hd b→a:=by
  intro f hW;repeat' first|(refine R1.w ?_;constructor)|((first|refine R1.s_r (by kernel_rfl) fun K hK=>?_|refine R1.e_r (by kernel_rfl) fun K hK=>?_);simp only[qB,aq,Nat.reduceLT,Nat.reduceEqDiff,Nat.reduceLeDiff,reduceIte,Nat.reduceAdd,Nat.reduceSub,Nat.reduceMul,Int.reduceLT,Int.reduceLE,Int.reduceBEq,f];refine hK _ _ ?_;clear hK K)
  exact hW.out):a:=e f hb
theorem qV {a b:Prop} (hb:b) (e:Hd b→a:=by
  intro hW;repeat' first|(refine R1.w ?_;constructor)|((first|refine R1.s_r (by kernel_rfl) fun K hK=>?_|refine R1.e_r (by kernel_rfl) fun K hK=>?_);simp only[qB,aq,Nat.reduceLT,Nat.reduceEqDiff,Nat.reduceLeDiff,reduceIte,Nat.reduceAdd,Nat.reduceSub,Nat.reduceMul,Int.reduceLT,Int.reduceLE,Int.reduceBEq];refine hK _ _ ?_;clear hK K)
  exact hW.out):a:=e hb
theorem qG {p a b:Prop} (f:p) (hb:b) (e:p→Hd b→a:=by
  intro f hW;repeat refine R1.aA ?_
  (first|refine R1.s_r (by kernel_rfl) fun K hK=>?_|refine R1.e_r (by kernel_rfl) fun K hK=>?_)
  simp only[qB,aq,Nat.reduceLT,Nat.reduceEqDiff,Nat.reduceLeDiff,reduceIte,Nat.reduceAdd,Nat.reduceSub,Nat.reduceMul,Int.reduceLT,Int.reduceLE,Int.reduceBEq,f];revert K
  exact hW.out):a:=e f hb
theorem qH {p a b:Prop} (f:p) (hb:b) (e:p→Hd b→a:=by
  intro f hW;repeat refine R1.aA ?_
  (first|refine R1.XV (by kernel_rfl) fun K hK=>?_|refine R1.XK (by kernel_rfl) fun K hK=>?_)
  simp only[qB,aq,Nat.reduceLT,Nat.reduceEqDiff,Nat.reduceLeDiff,reduceIte,Nat.reduceAdd,Nat.reduceSub,Nat.reduceMul,Int.reduceLT,Int.reduceLE,Int.reduceBEq,f];revert K
  exact hW.out):a:=e f hb
theorem qS {p a b:Prop} (f:p) (hb:b) (e:p→Hd b→a:=by
  intro f hW;simp only[qB,aq,Nat.reduceLT,Nat.reduceEqDiff,Nat.reduceLeDiff,reduceIte,Nat.reduceAdd,Nat.reduceSub,Nat.reduceMul,Int.reduceLT,Int.reduceLE,Int.reduceBEq,f];exact hW.out):a:=e f hb
theorem qT {a b:Prop} (hb:b) (e:Hd b→a:=by
  intro hW;simp only[qB,aq,Nat.reduceLT,Nat.reduceEqDiff,Nat.reduceLeDiff,reduceIte,Nat.reduceAdd,Nat.reduceSub,Nat.reduceMul,Int.reduceLT,Int.reduceLE,Int.reduceBEq];exact hW.out):a:=e hb
theorem qZ {p a:Prop} (f:p) (e:p→a:=by
  intro f;simp only[qB,aq,Nat.reduceLT,Nat.reduceEqDiff,Nat.reduceLeDiff,reduceIte,Nat.reduceAdd,Nat.reduceSub,Nat.reduceMul,Int.reduceLT,Int.reduceLE,Int.reduceBEq,f]):a:=e f
theorem qU {a:Prop} (e:a:=by simp only[qB,aq,Nat.reduceLT,Nat.reduceEqDiff,Nat.reduceLeDiff,reduceIte,Nat.reduceAdd,Nat.reduceSub,Nat.reduceMul,Int.reduceLT,Int.reduceLE,Int.reduceBEq]):a:=e
theorem qC {p a b:Prop} (f:p) (hb:b) (e:p→Hd b→a:=by
  intro f hW;repeat refine R1.aA ?_
  (first|refine R1.Gt fun Kx Ky hx hy=>?_|refine R1.Gn fun Kx Ky hx hy=>?_)
  simp only[qB,aq,Nat.reduceLT,Nat.reduceEqDiff,Nat.reduceLeDiff,reduceIte,Nat.reduceAdd,Nat.reduceSub,Nat.reduceMul,Int.reduceLT,Int.reduceLE,Int.reduceBEq,f];revert Kx Ky
  exact hW.out):a:=e f hb
theorem qE {a b:Prop} (hb:b) (e:Hd b→a:=by
  intro hW;repeat refine R1.aA ?_
  (first|refine R1.Gt fun Kx Ky hx hy=>?_|refine R1.Gn fun Kx Ky hx hy=>?_)
  simp only[qB,aq,Nat.reduceLT,Nat.reduceEqDiff,Nat.reduceLeDiff,reduceIte,Nat.reduceAdd,Nat.reduceSub,Nat.reduceMul,Int.reduceLT,Int.reduceLE,Int.reduceBEq];revert Kx Ky
  exact hW.out):a:=e hb
theorem qX {p a b:Prop} (f:p) (hb:b) (e:p→Hd b→a:=by
  intro f hW;repeat refine R1.aA ?_
  (first|refine R1.Gt fun Kx Ky hx hy=>?_|refine R1.Gn fun Kx Ky hx hy=>?_)
  simp only[qB,aq,Nat.reduceLT,Nat.reduceEqDiff,Nat.reduceLeDiff,reduceIte,Nat.reduceAdd,Nat.reduceSub,Nat.reduceMul,Int.reduceLT,Int.reduceLE,Int.reduceBEq,f]
  (first|refine hx ?_|refine hy ?_)
  exact hW.out):a:=e f hb
theorem qY {a b:Prop} (hb:b) (e:Hd b→a:=by
  intro hW;repeat refine R1.aA ?_
  (first|refine R1.Gt fun Kx Ky hx hy=>?_|refine R1.Gn fun Kx Ky hx hy=>?_)
  simp only[qB,aq,Nat.reduceLT,Nat.reduceEqDiff,Nat.reduceLeDiff,reduceIte,Nat.reduceAdd,Nat.reduceSub,Nat.reduceMul,Int.reduceLT,Int.reduceLE,Int.reduceBEq]
  (first|refine hx ?_|refine hy ?_)
  exact hW.out):a:=e hb
theorem qp {p:Prop} (e:p:=by simp only[aa,Nat.reduceEqDiff,reduceIte]):p:=e
theorem qd {p q:Prop} (f:q) (e:q→p:=by intro f;simp only[ak,f]):p:=e f
theorem ixC {len i:Nat} (h:i<len):∀ (H:Hp) (id g off sz:Nat),ct H sz (.one (.o (.sl id g off len sz))) (.one (.i .i64 (i:Int)))=.val (.one (.o (.ptr id g (off+i*sz) sz))) H:=fun _ _ _ _ _=>eD h
theorem slH {len i:Nat} (h:i≤len):∀ (H:Hp) (id g off sz:Nat) (k:IntKind) (alt:ad),cN H sz (.one (.o (.sl id g off len sz))) none (some (.one (.i k (i:Int)))) alt=.val (.one (.o (.sl id g off i sz))) H:=fun _ _ _ _ _ _ _=>wF h
theorem slL {len i:Nat} (h:i≤len):∀ (H:Hp) (id g off sz:Nat) (k:IntKind) (alt:ad),cN H sz (.one (.o (.sl id g off len sz))) (some (.one (.i k (i:Int)))) none alt=.val (.one (.o (.sl id g (off+i*sz) (len - i) sz))) H:=fun _ _ _ _ _ _ _=>rI h
theorem mV (z:List AC):nq z 1=z:=rj
section
variable {E:Env} {r:Option Nat} {x y z:Code} {B:ab} {H:Hp} {Q:ax→ab→Hp→Prop}
theorem R1.s_h {id:Nat} {ops:Array Oper} {dr:Bool} (hs:(bif dr then mf false ops else true)=true) (h:∀ K:ab→Hp→Prop,Hd (∀ B H,R1 E r z B H Q→K B H)→SG false E K (ops.toList.map fun o=>gOf ops.toList o.guard) ops.toList B H):R1 E r (.seq (.region id ops dr) z) B H Q:=R1.s_r hs h
theorem R1.e_h {id:Nat} {ops:Array Oper} {dr:Bool} (hs:(bif dr then mf false ops else true)=true) (h:∀ K:ab→Hp→Prop,Hd (∀ B H,Q .normal B H→K B H)→SG false E K (ops.toList.map fun o=>gOf ops.toList o.guard) ops.toList B H):R1 E r (.region id ops dr) B H Q:=R1.e_r hs h
theorem R1.s_hs {id:Nat} {ops:Array Oper} (hs:mf true ops=true) (h:∀ K:ab→Hp→Prop,Hd (∀ B H,R1 E r z B H Q→K B H)→SG true E K (ops.toList.map fun o=>gOf ops.toList o.guard) ops.toList B H):R1 E r (.seq (.region id ops true) z) B H Q:=R1.XV hs h
theorem R1.e_hs {id:Nat} {ops:Array Oper} (hs:mf true ops=true) (h:∀ K:ab→Hp→Prop,Hd (∀ B H,Q .normal B H→K B H)→SG true E K (ops.toList.map fun o=>gOf ops.toList o.guard) ops.toList B H):R1 E r (.region id ops true) B H Q:=R1.XK hs h
theorem R1.VR {c:Operand} (h:∀ Kx Ky:Prop,Hd (R1 E r (.seq x z) B H Q→Kx)→Hd (R1 E r (.seq y z) B H Q→Ky)→px (ev B.tm c) fun b=>if b=true then Kx else Ky):R1 E r (.seq (.cond c x y) z) B H Q:=R1.Gt h
theorem R1.Us {c:Operand} (h:∀ Kx Ky:Prop,Hd (R1 E r x B H Q→Kx)→Hd (R1 E r y B H Q→Ky)→px (ev B.tm c) fun b=>if b=true then Kx else Ky):R1 E r (.cond c x y) B H Q:=R1.Gn h
theorem R1.dS {id:Nat} (h:∀ K:ax→ab→Hp→Prop,Hd (∀ B H,R1 E r z B H Q→K .normal B H)→Hd (∀ B H,R1 E r z B H Q→K (.exit id) B H)→Hd (∀ i B H,i≠id→Q (.exit i) B H→K (.exit i) B H)→Hd (∀ B H,Q .ret B H→K .ret B H)→R1 E r x B H K):R1 E r (.seq (.block id x) z) B H Q:=R1.aU h
theorem R1.dM {id:Nat} (h:∀ K:ax→ab→Hp→Prop,Hd (∀ B H,Q .normal B H→K .normal B H)→Hd (∀ B H,Q .normal B H→K (.exit id) B H)→Hd (∀ i B H,i≠id→Q (.exit i) B H→K (.exit i) B H)→Hd (∀ B H,Q .ret B H→K .ret B H)→R1 E r x B H K):R1 E r (.block id x) B H Q:=R1.uq h
theorem Hd.ap {K:ab→Hp→Prop} {Z:ab→Hp→Prop} (h:Hd (∀ B H,Z B H→K B H)) {B:ab} {H:Hp} (k:Z B H):K B H:=h _ _ k
end
theorem zW {p a b:Prop} (f:p) (hb:b) (e:p→Hd b→a:=by
  intro f hW;repeat' first|(refine R1.w ?_;constructor)|((first|refine R1.s_h (by kernel_rfl) fun K hK=>?_|refine R1.e_h (by kernel_rfl) fun K hK=>?_);simp only[qB,aq,Nat.reduceLT,Nat.reduceEqDiff,Nat.reduceLeDiff,reduceIte,Nat.reduceAdd,Nat.reduceSub,Nat.reduceMul,Int.reduceLT,Int.reduceLE,Int.reduceBEq, *];refine hK.out _ _ ?_;clear hK K)|((first|refine R1.VR fun Kx Ky hx hy=>?_|refine R1.Us fun Kx Ky hx hy=>?_);simp only[qB,aq,Nat.reduceLT,Nat.reduceEqDiff,Nat.reduceLeDiff,reduceIte,Nat.reduceAdd,Nat.reduceSub,Nat.reduceMul,Int.reduceLT,Int.reduceLE,Int.reduceBEq, *];(first|refine hx.out ?_|refine hy.out ?_);clear hx hy Kx Ky)
  exact hW.out):a:=e f hb
theorem zG {p a b:Prop} (f:p) (hb:b) (e:p→Hd b→a:=by
  intro f hW;repeat refine R1.aA ?_
  (first|refine R1.s_h (by kernel_rfl) fun K hK=>?_|refine R1.e_h (by kernel_rfl) fun K hK=>?_)
  simp only[qB,aq,Nat.reduceLT,Nat.reduceEqDiff,Nat.reduceLeDiff,reduceIte,Nat.reduceAdd,Nat.reduceSub,Nat.reduceMul,Int.reduceLT,Int.reduceLE,Int.reduceBEq, *];revert K
  exact hW.out):a:=e f hb
theorem zH {p a b:Prop} (f:p) (hb:b) (e:p→Hd b→a:=by
  intro f hW;repeat refine R1.aA ?_
  (first|refine R1.s_hs (by kernel_rfl) fun K hK=>?_|refine R1.e_hs (by kernel_rfl) fun K hK=>?_)
  simp only[qB,aq,Nat.reduceLT,Nat.reduceEqDiff,Nat.reduceLeDiff,reduceIte,Nat.reduceAdd,Nat.reduceSub,Nat.reduceMul,Int.reduceLT,Int.reduceLE,Int.reduceBEq, *];revert K
  exact hW.out):a:=e f hb
theorem zS {p a b:Prop} (f:p) (hb:b) (e:p→Hd b→a:=by
  intro f hW;simp only[qB,aq,Nat.reduceLT,Nat.reduceEqDiff,Nat.reduceLeDiff,reduceIte,Nat.reduceAdd,Nat.reduceSub,Nat.reduceMul,Int.reduceLT,Int.reduceLE,Int.reduceBEq, *];exact hW.out):a:=e f hb
theorem zK {p a b:Prop} (f:p) (hb:b) (e:p→Hd b→a:=by
  intro f hW;try simp only[qB,aq,Nat.reduceLT,Nat.reduceEqDiff,Nat.reduceLeDiff,reduceIte,Nat.reduceAdd,Nat.reduceSub,Nat.reduceMul,Int.reduceLT,Int.reduceLE,Int.reduceBEq, *]
  refine Hd.ap (Z:=?_) ?_ ?_;rotate_left
  ·assumption
  repeat' first|(refine R1.w ?_;constructor)|((first|refine R1.s_h (by kernel_rfl) fun K hK=>?_|refine R1.e_h (by kernel_rfl) fun K hK=>?_);simp only[qB,aq,Nat.reduceLT,Nat.reduceEqDiff,Nat.reduceLeDiff,reduceIte,Nat.reduceAdd,Nat.reduceSub,Nat.reduceMul,Int.reduceLT,Int.reduceLE,Int.reduceBEq, *];refine hK.out _ _ ?_;clear hK K)|((first|refine R1.VR fun Kx Ky hx hy=>?_|refine R1.Us fun Kx Ky hx hy=>?_);simp only[qB,aq,Nat.reduceLT,Nat.reduceEqDiff,Nat.reduceLeDiff,reduceIte,Nat.reduceAdd,Nat.reduceSub,Nat.reduceMul,Int.reduceLT,Int.reduceLE,Int.reduceBEq, *];(first|refine hx.out ?_|refine hy.out ?_);clear hx hy Kx Ky)
  exact hW.out):a:=e f hb
theorem zI {p a b c:Prop} (f:p) (hb:b) (hc:c) (e:p→Hd b→Hd c→a:=by
  intro f hW hV;repeat refine R1.aA ?_
  (first|refine R1.VR fun Kx Ky hx hy=>?_|refine R1.Us fun Kx Ky hx hy=>?_)
  simp only[qB,aq,Nat.reduceLT,Nat.reduceEqDiff,Nat.reduceLeDiff,reduceIte,Nat.reduceAdd,Nat.reduceSub,Nat.reduceMul,Int.reduceLT,Int.reduceLE,Int.reduceBEq, *];refine di ?_ ?_
  ·refine fun hq=>hx.out ?_;revert hq
   exact hW.out
  refine fun hq=>hy.out ?_;revert hq
  exact hV.out):a:=e f hb hc
theorem zL {p:Prop} (e:p:=by repeat' (first|(simp only[aa,Nat.reduceEqDiff,reduceIte,aE,ak, *];first|done|rfl)|refine ⟨?_,?_⟩)):p:=e
theorem qe {p:Prop} (e:p:=by first|(simp only[ak, *];done)|rfl):p:=e
theorem arQ:(∀ (P:Program) (tm:PT AV) (H:Hp) (d:Option Tmp) (ty:TypeId) (pos:String) (af:Array Edge) (g:Option (Nat×Bool)) (t c:TypeId) (x y:Operand),an P tm H ⟨d,.binOp .quo t x y c,ty,pos,af,g⟩=qu (fun _ b=>b≠0) (fun k a b=>.i k (k.wrap (a.tdiv b))) H (bD P tm H ⟨d,.binOp .quo t x y c,ty,pos,af,g⟩) (ev tm x) (ev tm y)) ∧
  (∀ (P:Program) (tm:PT AV) (H:Hp) (d:Option Tmp) (ty:TypeId) (pos:String) (af:Array Edge) (g:Option (Nat×Bool)) (t c:TypeId) (x y:Operand),an P tm H ⟨d,.binOp .rem t x y c,ty,pos,af,g⟩=qu (fun _ b=>b≠0) (fun k a b=>.i k (a.tmod b)) H (bD P tm H ⟨d,.binOp .rem t x y c,ty,pos,af,g⟩) (ev tm x) (ev tm y)) ∧
  (∀ (H:Hp) (kd:Nat) (k k':IntKind) (a b:Int) (alt:ad),bp H kd .quo (dV .quo) (.one (.i k a)) (.one (.i k' b)) alt=alt)∧(∀ (H:Hp) (kd:Nat) (k k':IntKind) (a b:Int) (alt:ad),bp H kd .rem (dV .rem) (.one (.i k a)) (.one (.i k' b)) alt=alt):=
 ⟨fun _ _ _ _ _ _ _ _ _ _ _ _=>OV,fun _ _ _ _ _ _ _ _ _ _ _ _=>Of,fun _ _ _ _ _ _ _=>XU,fun _ _ _ _ _ _ _=>XZ⟩
theorem JE {b:Int} (h:b≠0):∀ (H:Hp) (alt:ad) (k:IntKind) (a:Int),qu (fun _ b=>b≠0) (fun k a b=>.i k (k.wrap (a.tdiv b))) H alt (.one (.i k a)) (.one (.i k b))=.val (.one (.i k (k.wrap (a.tdiv b)))) H:=fun _ _ _ _=>IH h
end Go.Eng
end

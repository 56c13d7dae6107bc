/- A part of the proof: BkTk11, BkTk12, BkTk13, BkTk14, BkTk15, BkTk16, BkTk17, BkTk18, BkTk19, BkTk20, BkTk21, BkTk22, BkTk23, BkTk24, BkTk25, BkCostsEnd, BkRfEnd, BkRfHold. No conditions. -/
import Derived.Test.YtgepceljhelekaaGreatPFAj
set_option maxRecDepth 100000
set_option maxHeartbeats 64000000
set_option linter.all false
namespace Go.Proofs.YtgepceljhelekaaGreat
open Go Go.Eng
abbrev LpZ(z:Sg)(items:List Fx)(given:List Nat)(f0 f1:List (List Fx))(due:List Fx->List Fx->Prop):Prop:=Lp z.v z.lr (kF z.ld z.v) z.c z.limit items given f0 f1 due
abbrev oF(z:Sg)(items:List Fx)(given:List Nat)(w:Option Nat)(i:Nat):List Fx->List Fx->Prop:=BD z.v z.lr (kF z.ld z.v) z.c items given w i
abbrev Ql(z:Sg)(I T items rest:List Fx)(given:List Nat):Prop:=dt z.v z.lr (kF z.ld z.v) z.c I T items rest given
def Pp{st:Bool}{E:Env}{A:aa}{H:Hp}{next:aa->Hp->Prop}{d:Option Tmp}{ty:TypeId}{pos:String}{af:Array Edge}{gd:Option (Nat×Bool)}{t:TypeId}{m k x:Operand}:
  SK st E ⟨d,.insert t m k x,ty,pos,af,gd⟩ A H next=(True∧upN next A d E.P H (fW E.P t) (ev A.tm m) (ev A.tm k) (ev A.tm x)):=by
 show(True∧dE _ ((ndF (fW E.P t) _ _).run A.tm H))=_
 rw[bT];rfl
def oM.same{H H':Hp}{id:Nat}{look:Int->Option AV}(h:oM H id look)(e:H'.get id=H.get id):oM H' id look:=by
 unfold oM;rw[e];exact h
def YR{c:Code}(hc:atF Tryz.f102 [1,0,1,1,1,1,1,1,0,1,0]=some c){z:Sg}{X:Nat->Prop}{H1:Hp}{b l n:Nat}{iv nv mv F:AC}{items:List Fx}{given:List Nat}{r0 r:Option Nat}{f0 found:List (List Fx)}{H:Hp}{A:aa}{K:ak->aa->Hp->Prop}
  (N6:z.c≤3) (hB:Bs z H1 b iv nv mv (l+1) items given r0) (hW:Wk z X H1 r0 H F found r) (T3:sQ z l) (hn:n∉given) (hnl:n<z.lr.length)
  (hL:LpZ z items given f0 found λI T=>(∃rest,Ql z I T items rest (n::given))∨oF z items given (some n) 0 I T)
  (hs:slot A.tm 4=.one ((.o (.ptr z.C1 0 0 1)))∧slot A.tm 5=.one ((.o (.ptr z.C2 0 0 1)))∧slot A.tm 6=.one ((.o (.ptr z.C3 0 0 1)))∧slot A.tm 7=.one ((.o (.ptr b 0 0 1)))∧slot A.tm 8=.one ((.o (.ptr (b+1) 0 0 1)))∧slot A.tm 9=.one ((.o (.ptr (b+2) 0 0 1)))∧slot A.tm 10=.one ((.o (.ptr (b+3) 0 0 1)))∧slot A.tm 11=.one (.i .i64 (n:Int))∧A.nt=228∧A.dfr=[])
  (hK:∀(A2:aa)(H2:Hp)(F':AC)(r':Option Nat)(found':List (List Fx)),Fr (SrC z.S r) H H2->Wk z X H1 r0 H2 F' found' r'->LpZ z items given f0 found' (oF z items given (some n) 0)->slot A2.tm 4=.one ((.o (.ptr z.C1 0 0 1)))∧slot A2.tm 5=.one ((.o (.ptr z.C2 0 0 1)))∧slot A2.tm 6=.one ((.o (.ptr z.C3 0 0 1)))∧slot A2.tm 7=.one ((.o (.ptr b 0 0 1)))∧slot A2.tm 8=.one ((.o (.ptr (b+1) 0 0 1)))∧slot A2.tm 9=.one ((.o (.ptr (b+2) 0 0 1)))∧slot A2.tm 10=.one ((.o (.ptr (b+3) 0 0 1)))∧slot A2.tm 11=.one (.i .i64 (n:Int))∧A2.nt=228∧A2.dfr=[]->K .normal A2 H2):R1 E2 none c A H K:=by
 cases hc
 obtain⟨t4,t5,t6,t7,t8,t9,t10,t11,A0,B0⟩:=hs
 have M7:given.length≤2:=by have:=hB.cc;omega
 have i_:=hB.now hW.nx;have hgv:=i_.gv;have hup:aU Tryz.prog (H.new (.oth (.map [] 0))) 3 (.one (.o (.mp H.nx))) (.one (.i .i64 (n:Int))) (.one (.b true))=.val aD ((H.new (.oth (.map [] 0))).mod H.nx (gX kvI (eV [n]))):=by
  exact EJ (BU Dg) (H:=H.new (.oth (.map [] 0))) (id:=H.nx) (k:=(n:Int)) (x:=.b true) (l:=[]) (aB rfl)
 have hnS:z.S<H.nx:=hW.st.own.1;have hnr:=hW.st.rlt;replace hB:=hd hB;replace hW:=hd hW;replace hK:=hd hK;replace hL:=hd hL;replace hgv:=hd hgv;replace i_:=hd i_;replace hn:=hd hn;replace hnr:=hd hnr;replace M7:=hd M7;refine zG (zDd tyR (@Pp) hup) λK1 Q6=>?_;refine Q6.out _ _ ?_;refine R1.gen (λA2 H2=>Gr H H2∧H.nx<H2.nx∧H2.get H.nx=some (gX kvI (eV [n]))∧slot A2.tm 4=.one ((.o (.ptr z.C1 0 0 1)))∧slot A2.tm 5=.one ((.o (.ptr z.C2 0 0 1)))∧slot A2.tm 6=.one ((.o (.ptr z.C3 0 0 1)))∧slot A2.tm 7=.one ((.o (.ptr b 0 0 1)))∧slot A2.tm 8=.one ((.o (.ptr (b+1) 0 0 1)))∧slot A2.tm 9=.one ((.o (.ptr (b+2) 0 0 1)))∧slot A2.tm 10=.one ((.o (.ptr (b+3) 0 0 1)))∧slot A2.tm 11=.one (.i .i64 (n:Int))∧slot A2.tm 14=.one ((.o (.mp H.nx)))∧A2.nt=228∧A2.dfr=[])
  ⟨((Fr.refl _).new _).mod _ (.inl (zA1 _)),zA6 _,an rfl,zL⟩ ?_
 clear t4 t5 t6 t7 t8 t9 t10 t11 A0 B0 A Q6 K1 hup;rintro A H2 ⟨g2,n2,rM,t4,t5,t6,t7,t8,t9,t10,t11,t14,A0,B0⟩;obtain⟨M,hM⟩:∃M,M=H.nx:=⟨_,rfl⟩
 rw[<-hM]at n2 rM t14;have y7:=hW.out.gr g2;obtain⟨x0,x1,x2,x3,⟨m0,m1⟩,m2,m3⟩:=hB.out.box y7.nx
 have hmv:=(i_.out.gv.lt);obtain⟨o,B9,J9⟩:∃o,gC H2 (.one mv)=.val (.one (.o (.it H2.nx))) (H2.new o)∧∀H3:Hp,(∀i,i<H2.nx->H3.get i=H2.get i)->H3.get H2.nx=some o ->
   ((mv=.o .nilM∧given=[]∧H3.get H2.nx=some (.oth (.iter none 0 [] 0)))∨∃id,mv=.o (.mp id)∧id≠M∧id≠H2.nx∧H3.get id=some (gX kvI (eV given))∧H3.get H2.nx=some (lJ id given.length [])):=by
  rcases hgv.out with⟨rfl,rfl⟩|⟨id,rfl,hid,_,hex⟩
  ·exact⟨_,Ov,λH3 _ h=>.inl ⟨rfl,rfl,h⟩⟩
  have he:H2.get id=some (gX kvI (eV given)):=(g2.get _ hid zB2).trans (hex M7.out);have hel:(eV given).length=given.length:=List.length_map ..;refine⟨_,VP he,λH3 h1 h2=>.inr ⟨id,rfl,by omega,by omega,(h1 id (by omega)).trans he,by rw[h2,hel]⟩⟩
 replace J9:=hd J9;replace y7:=hd y7;replace hM:=hd hM;refine zG (zDd tyR (@TU) B9) λK1 Q6=>?_;refine Q6.out _ _ ?_;refine R1.gen (λA3 H3=>Gr H H3∧M<H3.nx∧H2.nx<H3.nx∧H3.get M=some (gX kvI (eV [n]))∧((mv=.o .nilM∧given=[]∧H3.get H2.nx=some (.oth (.iter none 0 [] 0)))∨∃id,mv=.o (.mp id)∧id≠M∧id≠H2.nx∧H3.get id=some (gX kvI (eV given))∧H3.get H2.nx=some (lJ id given.length []))∧slot A3.tm 4=.one ((.o (.ptr z.C1 0 0 1)))∧slot A3.tm 5=.one ((.o (.ptr z.C2 0 0 1)))∧slot A3.tm 6=.one ((.o (.ptr z.C3 0 0 1)))∧slot A3.tm 7=.one ((.o (.ptr b 0 0 1)))∧slot A3.tm 8=.one ((.o (.ptr (b+1) 0 0 1)))∧slot A3.tm 9=.one ((.o (.ptr (b+2) 0 0 1)))∧slot A3.tm 10=.one ((.o (.ptr (b+3) 0 0 1)))∧slot A3.tm 11=.one (.i .i64 (n:Int))∧slot A3.tm 14=.one ((.o (.mp M)))∧slot A3.tm 84=.one ((.o (.it H2.nx)))∧A3.nt=228∧A3.dfr=[])
  ⟨g2.new _,Nat.lt_succ_of_lt n2,zA6 _,(aS n2).trans rM,J9.out _ (λi hi=>aS hi) (aB rfl),zL⟩ ?_
 clear t4 t5 t6 t7 t8 t9 t10 t11 t14 A0 B0 A Q6 K1 B9 J9 o x0 x1 x2 x3 m0 m1 m2 m3 hmv;rintro A H3 ⟨g3,n3,nI,rM3,J9,ts⟩;have hMn:H.nx≤M:=Nat.le_of_eq hM.out.symm;have hIn:H.nx≤H2.nx:=g2.nx;have Z4:=hB.out.nd;refine R1.seq (blk2 rfl J9 Z4 hn.out rM3 (by omega) n3 nI ts λA4 H4 f4 hml hexm ts4=>?_);show R1 E2 none _ A4 H4 K;obtain⟨t4,t5,t6,t7,t8,t9,t10,t11,t14,A0,B0⟩:=ts4
 have g4:Gr H H4:=g3.then f4 λk hk=>.inl (by rcases hk with rfl|rfl<;>omega);have hM4:M<H4.nx:=zA0 n3 f4.nx;have F2:=hW.out.gr g4;have hkp4:=hB.out.kpn F2.nx F2.rr;have hMX:¬SrC z.S r M:=λh=>by
  rcases h with h|h
  ·omega
  have:=hnr.out M h;omega
 have hkpM:Kp z (SrC z.S r) H4 iv nv (.o (.mp M)) items (n::given):=λH5 n5 g5=>by
  have k5:=hkp4 H5 n5 g5;have e5:=g5 M hM4 hMX;exact⟨k5.it,k5.nw,.inr ⟨M,rfl,by omega,oM.same hml e5,λh=>e5.trans (hexm (by rw[List.length_cons]at h;omega))⟩⟩
 have X3:items.length+(n::given).length+l=z.c:=by
  have:=hB.out.cc;rw[List.length_cons];omega
 obtain⟨x0,x1,x2,x3,⟨m0,m1⟩,m2,m3⟩:=hB.out.box F2.nx
 have c2:z.C2<H4.nx:=by have:=F2.st.clo.n;omega
 have G2:=F2.st.clo.g2;have i3:=hkp4.now.it.lt;have v3:=hkp4.now.nw.lt;have hl3:l≤2:=by have:=hB.out.cc;omega
 have hwl:IntKind.i64.wrap (((l+1:Nat):Int)-1)=(l:Int):=by rw[aP (by omega) (by omega)];omega
 clear J9 Z4 hml hexm hkp4 hMX x2 m2;replace X3:=hd X3;replace hkpM:=hd hkpM;replace F2:=hd F2;replace g3:=hd g3;replace f4:=hd f4;refine zG (qA tyR CO) λK1 Q6=>?_;refine WE.con (T3 X H4 iv nv (.o (.mp M)) F items (n::given) found r F2.out.st hkpM.out hB.out.I (List.nodup_cons.2 ⟨hn.out,hB.out.nd⟩) (λm hm=>(List.mem_cons.1 hm).elim (λe=>by rw[e];exact hnl) (hB.out.gl m)) X3.out) λw' H6 f6⟨hw,hq⟩=>?_;subst hw;obtain⟨F',r',found',O7,hP⟩:=F2.out.call f6 hq
 have hL6:=hL.out.next hP λI T h=>h;have hf:=(Fr.none (X:=SrC z.S r) g4).then f6 λk h=>.inr h;clear hP hq;replace O7:=hd O7;replace hL6:=hd hL6;replace hf:=hd hf;refine zS tyR ?_;refine Q6.out _ _ ?_;exact hK.out _ _ F' r' found' hf.out O7.out hL6.out zL
def od{x:xm}{g:Nat}:rowOf (some (.oth x)) g=none:=rfl
def SlC.no{H H':Hp}{v:AC}{sz n:Nat}{c:List AC}(h:SlC H' v sz n c){k:Nat}{x:xm}(hk:H'.get k=some (.oth x)):k∉(AV.one v).ids:=by
 rcases h.2 with⟨rfl,_⟩|⟨id,g,off,rfl,_,cells,hr,_⟩
 ·exactλh=>by cases h
 intro h;rw[List.mem_singleton.1 h]at hk;rw[hk,od]at hr;cases hr
section
variable{S N:Nat}{H H':Hp}{pc pr la vv:AC}{lc:List Cl}{lr:List Rl}{ld:List Lad}{v:List Int}
theorem SrD.Zh(h:SrD S N H pc pr la vv lc lr ld v){i:Int}(h0:0≤i)(h1:i<ld.length){id g off:Nat}{cells:List AC}{ul:AC}(hla:la=.o (.sl id g off ld.length 2))(hr:rowOf (H.get id) g=some cells)(hf:(cells.drop (off+i.toNat*2)).take 2=[.o (.str (ld.getD i.toNat ([],[])).1),ul]){k:Nat}(hk:SrX S N k):k∉(AV.one ul).ids:=by
 have hx:(H.mod k (.oth (.dfr true))).get k=some (.oth (.dfr true)):=an rfl;have hF:=h.2 (H.mod k (.oth (.dfr true))) (zA1 _) λi hi hn=>au λe=>hn (by rw[e];exact hk);obtain⟨id',g',off',cells',ul',e1,_,E3,O4,K8,_⟩:=qg hF.la h0 h1
 rw[hla]at e1;injection e1 with e1
 injection e1 with e1 e2 e3
 subst e1 e2 e3;by_cases e:id=k
 ·rw[e,hx,od]at E3;cases E3
 rw[au e,hr]at E3;cases E3
 rw[hf]at K8;injection K8 with _ K8
 injection K8 with K8 _
 subst K8;exact SlC.no (H:=H) O4 hx
end
section
variable{z:Sg}{X X0 Y:Nat->Prop}{H1 H H':Hp}{F:AC}{found:List (List Fx)}{r0 r:Option Nat}
theorem Fnd.wide{l:List (List Fx)}(h:Fnd X H F l r)(hx:∀k,Y k->X k∨H.nx≤k):Fnd Y H F l r:=by
 rcases h with h|⟨id,gen,lo,us,ex,h1,h2,h3,h4,h5,h6,h7,h8⟩
 ·exact .inl h
 refine .inr ⟨id,gen,lo,us,ex,h1,h2,h3,h4,h5,λhh=>(hx _ hh).elim h6 (by omega),h7,h8.mono λu f⟨a,b⟩=>⟨a,λk hk=>⟨λhh=>(hx _ hh).elim (b k hk).1 ?_,(b k hk).2⟩⟩⟩;have:k<H.nx:=a.lt k hk;omega
theorem SrS.fr(h:SrS z X H F found r)(f:Fr Y H H')(hy:∀k,Y k->X k∧z.N≤k∧k≠z.S):SrS z X H' F found r:=
 ⟨h.own.fr f λhh=>(hy _ hh).2.2 rfl,h.dat.fr f λk hk=>.inr (hy k hk).2.1,h.fnd.fr f λk hk=>.inl (hy k hk).1,h.xs,λk hk=>zA0 (h.xn k hk) f.nx,h.rn,h.clo.fr f λk hk=>.inr (hy k hk).2.1,h.ok,h.le⟩
theorem SrS.wide(h:SrS z X H F found r)(hs:Y z.S)(hn:∀k,Y k->k<H.nx)(hx:∀k,Y k->X k∨H.nx≤k):SrS z Y H F found r:=
 ⟨h.own,h.dat,h.fnd.wide hx,hs,hn,h.rn,h.clo,h.ok,h.le⟩
def Xp(X:Nat->Prop)(a b:Nat)(k:Nat):Prop:=X k∨(a≤k∧k<b)
theorem Wk.grow(h:Wk z X H1 r0 H F found r)(g:Gr H H'):Wk z (Xp X H.nx H'.nx) H1 r0 H' F found r:=by
 have hs:=h.st;refine⟨h.nx.gr g,?_,h.rr⟩
 have h2:SrS z (Xp X H.nx H'.nx) H' F found r:=by
  have a:Fnd (Xp X H.nx H'.nx) H' F found r:=(hs.fnd.wide (Y:=Xp X H.nx H'.nx) λk hk=>hk.imp id And.left).fr g λ_ h=>h.elim;have b:=hs.gr g;exact⟨b.own,b.dat,a,.inl hs.xs,λk hk=>hk.elim (b.xn k) And.right,b.rn,b.clo,b.ok,b.le⟩
 exact h2
theorem Wk.nr(h:Wk z X H1 r0 H F found r):∀k,r=some k->k<H.nx∧¬X k:=λk hk=>by subst hk;exact h.st.fnd.rlt
theorem Wk.sm{L:Nat}(h:Wk z X H1 r0 H F found r)(s:Sm L H H')(hL:X L)(h1:H1.nx≤L)(hN:z.N≤L)(hS:L≠z.S):Wk z X H1 r0 H' F found r:=by
 have f:Fr (λk=>k=L) H ⟨H'.t,H'.nx,H.log⟩:=⟨s.nx,s.get,[],rfl,λ_ h=>by cases h⟩;have a:=h.st.fr f λk(hk:k=L)=>by subst hk;exact⟨hL,hN,hS⟩
 exact⟨h.nx.then (Y:=λk=>k=L) ⟨s.nx,s.get⟩ λk(hk:k=L)=>.inr (by omega),a.lg H'.log,h.rr⟩
def DfM(X:Nat->Prop)(H1 H:Hp)(dl:List Nat):Prop:=dl.Nodup∧∀d∈dl,X d∧H1.nx≤d∧d<H.nx∧H.get d=some (.oth (.dfr true))
theorem DfM.nil:DfM X H1 H []:=⟨List.nodup_nil,λ_ h=>absurd h List.not_mem_nil⟩
theorem DfM.wide{dl:List Nat}(h:DfM X H1 H dl)(hx:∀k,X k->Y k):DfM Y H1 H dl:=⟨h.1,λd hd=>by
 obtain⟨a,b,c,e⟩:=h.2 d hd
 exact⟨hx d a,b,c,e⟩⟩
theorem DfM.cons{dl:List Nat}{d:Nat}(h:DfM X H1 H dl)(hd:d∉dl)(h1:X d)(h2:H1.nx≤d)(h3:d<H.nx)(h4:H.get d=some (.oth (.dfr true))):DfM X H1 H (d::dl):=
 ⟨List.nodup_cons.2 ⟨hd,h.1⟩,λe he=>(List.mem_cons.1 he).elim (λq=>by rw[q];exact⟨h1,h2,h3,h4⟩) (h.2 e)⟩
theorem DfM.close:∀{dl:List Nat}{H:Hp},DfM X H1 H dl->∃H',closeAll H dl=some H'∧Fr (λk=>k∈dl) H H'∧H'.nx=H.nx
 |[],H,_=>⟨H,rfl,Fr.refl _,rfl⟩
 |d::dl,H,h=>by
  obtain⟨a,b,c,e⟩:=h.2 d (List.mem_cons_self ..)
  have h2:DfM X H1 (H.mod d (.oth (.dfr false))) dl:=⟨(List.nodup_cons.1 h.1).2,λq hq=>by
   obtain⟨a',b',c',e'⟩:=h.2 q (List.mem_cons_of_mem _ hq)
   exact⟨a',b',c',(au λhh=>(List.nodup_cons.1 h.1).1 (by rw[<-hh];exact hq)).trans e'⟩⟩
  obtain⟨H',h3,h4,h5⟩:=h2.close
  refine⟨H',?_,((Fr.refl _).mod _ (.inr (List.mem_cons_self ..))).then h4 λk hk=>.inr (List.mem_cons_of_mem _ hk),h5⟩
  show(match H.get d with|some (.oth (.dfr true))=>closeAll (H.mod d (.oth (.dfr false))) dl|_=>none)=_
  rw[e];exact h3
end
def Cq{E:Env}{A:aa}{H H2:Hp}{e:ak}(he:e=.normal∨e=.ret)(hd:closeAll H A.dfr=some H2):aC E [] (e,A,H)=.ok [(.tup [],H2)]:=by
 have key:(aw (closeAll H A.dfr) (R.bad "marks") λh2=>aw (bQ E.P [] A.tm h2) (.bad "results") λl=>.ok [(dU l,h2)])=.ok [(.tup [],H2)]:=by rw[hd];rfl
 rcases he with rfl|rfl
 ·exact key
 exact key
def yX{m:Int}:∀{S:List Sp},(∀x∈S,1≤x.1)->(∃x∈S,x.2.2=m)->fN S m≠0
 |[],_,h=>by obtain⟨_,h,_⟩:=h;cases h
 |x::S,h1,h2=>by
  rw[fN];by_cases c:x.2.2=m
  ·rw[zB0 c];have:=h1 x (List.mem_cons_self ..);omega
  rw[zB1 c];obtain⟨y,hy,e⟩:=h2
  refine yX (λz hz=>h1 z (List.mem_cons_of_mem _ hz)) ⟨y,(List.mem_cons.1 hy).resolve_left λe'=>c (by rw[<-e'];exact e),e⟩
section
variable{z:Sg}{X Y:Nat->Prop}{H1 H H':Hp}{F:AC}{found:List (List Fx)}{r0 r:Option Nat}
theorem DfM.fr2{dl:List Nat}(h:DfM X H1 H dl)(f:Fr Y H H')(hy:∀d∈dl,¬Y d):DfM X H1 H' dl:=⟨h.1,λd hd=>by
 obtain⟨a,b,c,e⟩:=h.2 d hd
 exact⟨a,b,zA0 c f.nx,(f.get d c (hy d hd)).trans e⟩⟩
theorem DfM.sm{dl:List Nat}{L:Nat}(h:DfM X H1 H dl)(s:Sm L H H')(hy:L∉dl):DfM X H1 H' dl:=⟨h.1,λd hd=>by
 obtain⟨a,b,c,e⟩:=h.2 d hd
 exact⟨a,b,zA0 c s.nx,(s.get d c λhh=>hy (by rw[<-hh];exact hd)).trans e⟩⟩
theorem Wk.call2(h:Wk z X H1 r0 H F found r)(f:Fr (SrC z.S r) H H'){P:List (List Fx)->Prop}(q:FrQ z X H.nx r P H'):∃F' r' found',Wk z X H1 r0 H' F' found' r'∧(∀k,r'=some k->r=some k∨H.nx≤k)∧P found':=by
 obtain⟨F',r',found',h1,h2,h3⟩:=q
 have hn:=h.nx.1;exact⟨F',r',found',⟨h.nx.then (Nx.of f) λi hi=>hi.elim (λe=>.inl (.inl e)) λe=>(h.rr i e).imp .inr id,h1,λk hk=>(h2 k hk).elim (h.rr k) λh4=>.inr (zA2 hn h4)⟩,h2,h3⟩
theorem Wk.kept(h:Wk z X H1 r0 H F found r){k:Nat}(hx:X k)(hs:k≠z.S):¬SrC z.S r k:=λhh=>hh.elim hs λe=>(h.nr k e).2 hx
end
abbrev sU(z:Sg)(items:List Fx)(given:List Nat)(w:Option Nat)(i:Nat)(rl:Rl)(ps:List Int):List Fx->List Fx->Prop:=pT z.v z.lr (kF z.ld z.v) z.c items given w i rl ps
abbrev SE(z:Sg)(items:List Fx)(given:List Nat)(w:Option Nat)(i:Nat)(rl:Rl)(ps:List Int)(p:Int)(S:List Int):List Fx->List Fx->Prop:=Qe z.v z.lr (kF z.ld z.v) z.c items given w i rl ps p S
def slZ(z:Sg)(p:Int):List Sp:=fC (z.ld.getD p.toNat ([],[])).2 (aG (z.ld.getD p.toNat ([],[])).2 (z.v.getD p.toNat 0)) (dR (z.ld.getD p.toNat ([],[])).1 (z.ld.getD p.toNat ([],[])).2) (z.v.getD p.toNat 0)
def Zg{c:Code}(hc:atF Tryz.f102 [1,0,1,1,1,1,1,1,1,1,0,0,1,1,0,0,1,1,1,0,0,1,1,0,0,1,1,1]=some c){z:Sg}(D0:lA z.ld z.lr z.v)(N6:z.c≤3){X:Nat->Prop}{H1:Hp}{b l:Nat}{iv nv mv F:AC}{items:List Fx}{given:List Nat}{r0 r:Option Nat}{f0 found:List (List Fx)}{H:Hp}{A:aa}{K:ak->aa->Hp->Prop}{dl:List Nat}
  (hB:Bs z H1 b iv nv mv (l+1) items given r0) (hW:Wk z X H1 r0 H F found r) (hD:DfM X H1 H dl) (T3:sQ z l) {w:Option Nat} {i PB RB:Nat} {rl:Rl} {p wi ni:Int} {ps:List Int} {u102 u103 u104 u123 u124 u125:AC}
  (P3:rl∈z.lr) (hp:p∈rl.2) (hnw:(aM z.v items).getD p.toNat 0=z.v.getD p.toNat 0) (hL:LpZ z items given f0 found (sU z items given w i rl (p::ps)))
  (hPB:H.get PB=some (.arr [.i .i64 p] 3 0 0)) (hPX:X PB) (hPS:PB≠z.S)
  (hs:slot A.tm 4=.one ((.o (.ptr z.C1 0 0 1)))∧slot A.tm 5=.one ((.o (.ptr z.C2 0 0 1)))∧slot A.tm 6=.one ((.o (.ptr z.C3 0 0 1)))∧slot A.tm 7=.one ((.o (.ptr b 0 0 1)))∧slot A.tm 8=.one ((.o (.ptr (b+1) 0 0 1)))∧slot A.tm 9=.one ((.o (.ptr (b+2) 0 0 1)))∧slot A.tm 10=.one ((.o (.ptr (b+3) 0 0 1)))∧slot A.tm 11=.one ((.i .i64 wi))∧slot A.tm 16=.one ((.i .i64 ni))∧slot A.tm 17=.one ((.o (.ptr RB 0 0 2)))∧slot A.tm 102=.one (u102)∧slot A.tm 103=.one (u103)∧slot A.tm 104=.one (u104)∧slot A.tm 123=.one (u123)∧slot A.tm 124=.one (u124)∧slot A.tm 125=.one (u125)∧slot A.tm 19=.one ((.o (.ptr PB 0 0 1)))∧A.nt=228∧A.dfr=dl)
  (hK:∀(A2:aa)(H2:Hp)(X':Nat->Prop)(F':AC)(r':Option Nat)(found':List (List Fx))(dl':List Nat),Fr (SrC z.S r) H H2->(∀k,X k->X' k)->Wk z X' H1 r0 H2 F' found' r'->DfM X' H1 H2 dl'->LpZ z items given f0 found' (sU z items given w i rl ps)->slot A2.tm 4=.one ((.o (.ptr z.C1 0 0 1)))∧slot A2.tm 5=.one ((.o (.ptr z.C2 0 0 1)))∧slot A2.tm 6=.one ((.o (.ptr z.C3 0 0 1)))∧slot A2.tm 7=.one ((.o (.ptr b 0 0 1)))∧slot A2.tm 8=.one ((.o (.ptr (b+1) 0 0 1)))∧slot A2.tm 9=.one ((.o (.ptr (b+2) 0 0 1)))∧slot A2.tm 10=.one ((.o (.ptr (b+3) 0 0 1)))∧slot A2.tm 11=.one ((.i .i64 wi))∧slot A2.tm 16=.one ((.i .i64 ni))∧slot A2.tm 17=.one ((.o (.ptr RB 0 0 2)))∧slot A2.tm 102=.one (u102)∧slot A2.tm 103=.one (u103)∧slot A2.tm 104=.one (u104)∧slot A2.tm 123=.one (u123)∧slot A2.tm 124=.one (u124)∧slot A2.tm 125=.one (u125)∧A2.nt=228∧A2.dfr=dl'->K .normal A2 H2):R1 E2 none c A H K:=by
 cases hc
 obtain⟨t4,t5,t6,t7,t8,t9,t10,t11,t16,t17,t102,t103,t104,t123,t124,t125,t19,A0,B0⟩:=hs
 have V2:=D0.rp.pr rl P3 p hp;have I1:=D0.vl;have G_:p<z.ld.length:=by omega
 obtain⟨L0,G8,R6⟩:=D0.lad V2.1 V2.2
 have hW0:=hW;obtain⟨o6,S5⟩:=hW.st.own
 obtain⟨idv,gv,offv,cellsv,a9,X6,I6,e3,e4⟩:=jm hW.st.dat.now.vi V2.1 V2.2
 obtain⟨idl,gl,offl,cellsl,ul,E6,U9,R8,O4,f3,f4⟩:=qg hW.st.dat.now.la V2.1 G_
 have S6:∀k,SrX z.S z.N k->k∉(AV.one ul).ids:=λk hk=>hW.st.dat.Zh V2.1 G_ E6 R8 f3 hk;rw[a9,E6]at S5;have hPn:PB<H.nx:=hW.st.xn PB hPX;have c1:z.C1<H.nx:=by have:=hW.st.clo.n;omega
 have G1:=hW.st.clo.g1;have lul:=O4.lt;replace hB:=hd hB;replace hW:=hd hW;replace hW0:=hd hW0;replace hK:=hd hK;replace hL:=hd hL;replace hD:=hd hD;replace S6:=hd S6;replace O4:=hd O4;replace I1:=hd I1;replace hnw:=hd hnw;replace L0:=hd L0;replace a9:=hd a9;replace E6:=hd E6;replace hPX:=hd hPX;replace hPS:=hd hPS;refine zO (zDe tyR (ixI V2.1 V2.2) (ixI V2.1 G_) DV) λK1 Q6=>?_;refine WE.xk (yN H (.o (.str (z.ld.getD p.toNat ([],[])).1)) ul (z.v.getD p.toNat 0) lul) λw' H5 g5⟨hv5,C4,y8,J8⟩=>?_;subst hv5;refine zQ tyR ?_;refine Q6.out _ _ ?_;obtain⟨il,hile⟩:∃q,q=H.nx:=⟨_,rfl⟩
 rw[<-hile]at C4 y8 J8;refine R1.jw (λA4=>slot A4.tm 4=.one ((.o (.ptr z.C1 0 0 1)))∧slot A4.tm 5=.one ((.o (.ptr z.C2 0 0 1)))∧slot A4.tm 6=.one ((.o (.ptr z.C3 0 0 1)))∧slot A4.tm 7=.one ((.o (.ptr b 0 0 1)))∧slot A4.tm 8=.one ((.o (.ptr (b+1) 0 0 1)))∧slot A4.tm 9=.one ((.o (.ptr (b+2) 0 0 1)))∧slot A4.tm 10=.one ((.o (.ptr (b+3) 0 0 1)))∧slot A4.tm 11=.one ((.i .i64 wi))∧slot A4.tm 16=.one ((.i .i64 ni))∧slot A4.tm 17=.one ((.o (.ptr RB 0 0 2)))∧slot A4.tm 102=.one (u102)∧slot A4.tm 103=.one (u103)∧slot A4.tm 104=.one (u104)∧slot A4.tm 123=.one (u123)∧slot A4.tm 124=.one (u124)∧slot A4.tm 125=.one (u125)∧slot A4.tm 19=.one ((.o (.ptr PB 0 0 1)))∧slot A4.tm 215=.one ((.o (.clo 65 [(il,0,0,2),(il+1,0,0,1)])))∧A4.nt=228∧A4.dfr=dl) (by rw[hile];exact zL) ?_;clear t4 t5 t6 t7 t8 t9 t10 t11 t16 t17 t102 t103 t104 t123 t124 t125 t19 A0 B0 A Q6 K1;rintro A ⟨t4,t5,t6,t7,t8,t9,t10,t11,t16,t17,t102,t103,t104,t123,t124,t125,t19,t215,A0,B0⟩;have hul5:SlP H5 ul (z.ld.getD p.toNat ([],[])).2:=O4.out.gr g5;have hSB:=Ck L0.out (show(0:Int)≤z.v.getD p.toNat 0 by omega) R6;obtain⟨S,hS⟩:∃S,S=slZ z p:=⟨_,rfl⟩
 have hkS:∀y∈S,kF z.ld z.v p y.2.2≠0:=λy hy=>by
  rw[hS]at hy;exact yX (λx hx=>((yE L0.out G8 hx).1).1) ⟨y,hy,rfl⟩
 have hL0:LpZ z items given f0 found (SE z items given w i rl ps p (S.map λx=>x.2.2)):=Lp.ZM hL.out λto hto=>by
  obtain⟨x,hx,e,_⟩:=wV (m:=to) hto
  rw[hS];exact List.mem_map.2 ⟨x,hx,e⟩
 have hSH:H1.nx≤H.nx:=hW.out.nx.1;have hNn:z.N≤H1.nx:=by have:=hB.out.nb;have:=hB.out.n;omega
 have hSn:z.S<H1.nx:=by
  have h1:=hB.out.ne;have h2:=hB.out.n;exact Classical.byContradiction λhh=>h1 z.S (by omega) (.inl rfl)
 have hdlt:∀d∈dl,d<H.nx:=λd hd=>(hD.out.2 d hd).2.2.1;obtain⟨X',hX'⟩:∃X',X'=Xp X H.nx (H5.nx+2):=⟨_,rfl⟩
 have N9:∀k,X k->X' k:=λk hk=>by rw[hX'];exact .inl hk
 have N8:∀k,H.nx≤k->k<H5.nx+2->X' k:=λk h1 h2=>by rw[hX'];exact .inr ⟨h1,h2⟩
 replace hS:=hd hS;replace hkS:=hd hkS;replace hL0:=hd hL0;replace hdlt:=hd hdlt;replace N9:=hd N9;replace N8:=hd N8;replace hX':=hd hX';refine R1.og λK1 k1 k2 k3 k4=>?_;refine R1.range (σ:=AC×Option Nat×List (List Fx)) (g:=65) (caps:=[(il,0,0,2),(il+1,0,0,1)]) (n:=S.length) (ar:=slA S) (D:=λk=>k=il∨k=il+1∨k∈(AV.one ul).ids) (by simp only[zY,t215]) xX (λ_=>rfl)
  (Az H5 il (il+1) (z.ld.getD p.toNat ([],[])).1 ul (z.ld.getD p.toNat ([],[])).2 (z.v.getD p.toNat 0) (by omega) C4 J8 y8 hul5 L0.out G8 R6 _ _ rfl rfl hSB S hS.out.symm) (λk hk=>by
   rcases hk with h|h|h
   ·omega
   ·omega
   have h2:k<H.nx:=lul k h;have:=g5.nx;omega) (by rw[A0];rfl) (λi _=>Mw S i)
  (λk s H6=>Hd (Wk z X' H1 r0 H6 s.1 s.2.2 s.2.1)∧Hd (LpZ z items given f0 s.2.2 (SE z items given w i rl ps p ((S.drop k).map λx=>x.2.2)))∧Hd (DfM X' H1 H6 dl)∧H6.get PB=some (.arr [.i .i64 p] 3 0 0)∧H5.nx+2≤H6.nx)
  (λ_ _ _=>False)
  (λs k=>SrC z.S s.2.1 k) ?_ ?_ ?_ (F,r,found) ?_ ?_ ?_ ?_
 ·rintro k s H6 H7 ⟨a1,a2,a3,a4,a5⟩ hs;have:=g5.nx;exact⟨a1.out.sm hs (N8.out _ (by omega) (by omega)) (by omega) (by omega) (by omega),a2,a3.out.sm hs λhh=>by have:=hdlt.out _ hh;omega,(hs.get _ (by omega) (by omega)).trans a4,zA2 a5 hs.nx⟩
 ·rintro e s H6 H7 h hs;exact h
 ·rintro k s H6 q ⟨a1,a2,a3,a4,a5⟩ hq;have g5n:=g5.nx;rcases hq with hq|hq
  ·subst hq;refine⟨by omega,by omega,by omega,λh=>?_⟩
   rcases h with h|h|h
   ·omega
   ·omega
   exact S6.out _ (.inl rfl) h
  obtain⟨b1,b2⟩:=a1.out.nr q hq
  have b3:=a1.out.st.rn q hq;refine⟨b1,λe=>b2 (N8.out _ (by omega) (by omega)),λe=>b2 (N8.out _ (by omega) (by omega)),λh=>?_⟩
  rcases h with h|h|h
  ·exact b2 (N8.out _ (by omega) (by omega))
  ·exact b2 (N8.out _ (by omega) (by omega))
  exact S6.out _ (.inr b3) h
 ·intro H6 g6 n6;have g56:=g5.gr g6;refine⟨?_,by rw[List.drop_zero];exact hL0.out,(hD.out.fr2 g56 λ_ _ h=>h).wide N9.out,(g56.get _ hPn zB2).trans hPB,by omega⟩
  have h1:=hW.out.grow g56;rw[n6]at h1;rw[hX'.out];exact h1
 ·rintro k s H6 hk ⟨a1,a2,a3,a4,a5⟩ n6;obtain⟨F6,r6,found6⟩:=s
  replace a1:Hd (Wk z X' H1 r0 H6 F6 found6 r6):=a1;have hy:S[k]?=some S[k]:=zB4 hk;have N0:S.drop k=S[k]::S.drop (k+1):=List.drop_eq_getElem_cons hk;have S_:S[k]∈S:=List.getElem_mem hk;generalize S[k]=y at hy N0 S_;have hky:=hkS.out y S_;replace a2:LpZ z items given f0 found6 (SE z items given w i rl ps p ((S.drop k).map λx=>x.2.2)):=a2;rw[N0,List.map_cons]at a2;rw[Js hy];obtain⟨kd,sg,nn⟩:=y
  refine R1.jw (λA7=>slot A7.tm 6=.one (.o (.ptr z.C3 0 0 1))∧slot A7.tm 7=.one (.o (.ptr b 0 0 1))∧slot A7.tm 8=.one (.o (.ptr (b+1) 0 0 1))∧slot A7.tm 9=.one (.o (.ptr (b+2) 0 0 1))∧slot A7.tm 10=.one (.o (.ptr (b+3) 0 0 1))∧slot A7.tm 19=.one (.o (.ptr PB 0 0 1))∧slot A7.tm 216=.agg [.i .i64 kd,.o (.str sg),.i .i64 nn]∧A7.nt=228∧A7.dfr=[]) ⟨?_,?_,?_,?_,?_,?_,?_,A0,rfl⟩ ?_
  ·show slot (A.tm.set 216 _) 6=_;simp only[bR,Nat.reduceEqDiff,reduceIte,t6]
  ·show slot (A.tm.set 216 _) 7=_;simp only[bR,Nat.reduceEqDiff,reduceIte,t7]
  ·show slot (A.tm.set 216 _) 8=_;simp only[bR,Nat.reduceEqDiff,reduceIte,t8]
  ·show slot (A.tm.set 216 _) 9=_;simp only[bR,Nat.reduceEqDiff,reduceIte,t9]
  ·show slot (A.tm.set 216 _) 10=_;simp only[bR,Nat.reduceEqDiff,reduceIte,t10]
  ·show slot (A.tm.set 216 _) 19=_;simp only[bR,Nat.reduceEqDiff,reduceIte,t19]
  ·show slot (A.tm.set 216 _) 216=_;simp only[bR,Nat.reduceEqDiff,reduceIte];rfl
  clear t4 t5 t6 t7 t8 t9 t10 t11 t16 t17 t102 t103 t104 t123 t124 t125 t19 t215 A0 B0 hPB S5 G1 C4 J8 y8 R8 I6 X6 U9 e3 e4 f3 f4;rintro A7 ⟨t6,t7,t8,t9,t10,t19,t216,A0,B0⟩;clear N0 hy;replace a2:=hd a2;replace hky:=hd hky;replace S_:=hd S_;refine zW tyR ?_;refine⟨rfl,((Fr.refl _).new _).mod _ (.inl (zA1 _)),λH8 n8 s8=>?_⟩
  have g67:Gr H6 ((H6.new (.arr [.i .i64 0,.o (.str []),.i .i64 0] 63 0 0)).mod H6.nx (.arr [.i .i64 kd,.o (.str sg),.i .i64 nn] 63 0 0)):=((Fr.refl _).new _).mod _ (.inl (zA1 _));have gu:H8.get H6.nx=some (.arr [.i .i64 kd,.o (.str sg),.i .i64 nn] 63 0 0):=by
   rw[s8.get _ (by show H6.nx<H6.nx+1;omega) (by omega)];exact an rfl
  have n8':H8.nx=H6.nx+1:=n8;have g5n:=g5.nx;have hW8:Wk z X' H1 r0 H8 F6 found6 r6:=(a1.out.gr g67).sm s8 (N8.out _ (by omega) (by omega)) (by omega) (by omega) (by omega);have hD8:DfM X' H1 H8 dl:=(a3.out.fr2 g67 λ_ _ h=>h).sm s8 λhh=>by have:=hdlt.out _ hh;omega
  have hP8:H8.get PB=some (.arr [.i .i64 p] 3 0 0):=by
   rw[s8.get _ (by show PB<H6.nx+1;omega) (by omega),au (by omega),aS (by omega)];exact a4
  have lu:H6.nx<H8.nx:=by omega
  have hPn8:PB<H8.nx:=by omega
  clear n8 s8 g67;obtain⟨x0,x1,x2,x3,⟨m0,m1⟩,m2,m3⟩:=hB.out.box hW8.nx
  have hk8:=hB.out.kpn hW8.nx hW8.rr;have i3:=hk8.now.it.lt;have v3:=hk8.now.nw.lt;have w3:=hk8.now.gv.lt;have c3:z.C3<H8.nx:=by have:=hW8.st.clo.n;omega
  have G3:=hW8.st.clo.g3;replace hW8:=hd hW8;replace hk8:=hd hk8;replace hD8:=hd hD8;replace n8':=hd n8';refine R1.kX λK2 p1 p2 p3 p4=>?_;replace p1:=hd p1;refine zG (qA tyR QQ) λK3 P6=>?_;refine WE.con (KO D0 N6 T3 X' H8 iv nv mv F6 items given found6 r6 p nn rl hW8.out.st hk8.out hB.out.I hB.out.nd hB.out.gl hB.out.cc P3 hp hnw.out hky.out) λw' H9 f9⟨hw,hq⟩=>?_;subst hw;obtain⟨F9,r9,found9,hW9,H_,hP9⟩:=hW8.out.call2 f9 hq
  have hL9:=Lp.slip a2.out hP9;have hXP:=N9.out _ hPX.out;have hP9':H9.get PB=some (.arr [.i .i64 p] 3 0 0):=(f9.get _ hPn8 (hW8.out.kept hXP hPS.out)).trans hP8;have hD9:DfM X' H1 H9 dl:=hD8.out.fr2 f9 λd hd=>hW8.out.kept (hD8.out.2 d hd).1 (by have:=(hD8.out.2 d hd).2.1;omega);have n9:=f9.nx;have n6':H6.nx≤H9.nx:=by have:=n8'.out;omega
  have n56:H5.nx+2≤H9.nx:=by omega
  have C7:∀q,r9=some q->r6=some q∨H6.nx≤q:=λq hq=>(H_ q hq).imp id λh=>by have:=n8'.out;omega
  clear hP9 hq H_;replace hW9:=hd hW9;replace hL9:=hd hL9;replace hD9:=hd hD9;replace C7:=hd C7;replace f9:=hd f9;refine zS tyR ?_;refine P6.out _ _ ?_;exact p1.out _ _ ⟨qe,f9.out.mono λq hq=>.inl hq,(F9,r9,found9),λ_=>⟨hW9,hL9,hD9,hP9',n56⟩,λh=>absurd rfl h,λq hq=>hq.elim (λh=>.inl (.inl h)) λh=>(C7.out q h).imp .inr id⟩
 ·rintro s' H6 ⟨a1,a2,a3,a4,a5⟩ n6 n_ D8 Y5;have g5n:=g5.nx;refine k1.out _ _ ?_;have hLe:LpZ z items given f0 s'.2.2 (sU z items given w i rl ps):=Lp.Yi (by
   have:=a2.out;rw[List.drop_length]at this;exact this)
  refine hK.out _ _ X' s'.1 s'.2.1 s'.2.2 (H5.nx::dl) ((Fr.none g5).then D8 λk hk=>.inr hk) N9.out a1.out (a3.out.cons (λhh=>by have:=hdlt.out _ hh;omega) (N8.out _ (by omega) (by omega)) (by omega) (by omega) n_) hLe ⟨t4,t5,t6,t7,t8,t9,t10,t11,t16,t17,t102,t103,t104,t123,t124,t125,A0,?_⟩;show H5.nx::A.dfr=_;rw[B0]
 rintro e s' H6 Z0 h;exact h.elim
def TM{v:List Int}(hv:∀j,0≤v.getD j 0∧v.getD j 0≤1099511627776):∀ps:List Int,0≤tK v ps∧tK v ps≤ps.length*1099511627776
 |[]=>⟨Int.le_refl _,by show(0:Int)≤_;simp⟩
 |p::ps=>by
  have ih:=TM hv ps;have h:=hv p.toNat;have e:tK v (p::ps)=v.getD p.toNat 0+tK v ps:=rfl;rw[e,List.length_cons];omega
def XX{v:List Int}{lr:List Rl}{K:Int->Int->Int}(D0:eO v lr K){l:List Fx}(hl:bM v lr K l)(j:Nat):0≤(aM v l).getD j 0∧(aM v l).getD j 0≤1099511627776:=by
 by_cases hm:∃y∈l,y.1.toNat=j
 ·obtain⟨y,hy,rfl⟩:=hm
  have hyo:=hl.ok y hy;have O5:=hyo.1;rw[fM l v hl.pw y hy (by omega)];have:=(D0.kb y.1 y.2.2.1 (by rw[<-hyo.2.2.1];exact hyo.2.2.2.1)).1;omega
 rw[dV l v j λy hy e=>hm ⟨y,hy,e⟩];exact D0.vb j
def ZB{v:List Int}{lr:List Rl}{K:Int->Int->Int}(D0:eO v lr K){l:List Fx}(hl:bM v lr K l){r:Rl}(hr:r∈lr):0≤aY (aM v l) 0 r.2∧aY (aM v l) 0 r.2≤70368744177664:=by
 have G7:=D0.pl r hr;have hb:=XX D0 hl;have e:=uf hb r.2 0 (Int.le_refl _) (by omega);have h2:=TM hb r.2;omega
def Wk.frc{z:Sg}{X:Nat->Prop}{H1 H H':Hp}{F:AC}{found:List (List Fx)}{r0 r:Option Nat}(h:Wk z X H1 r0 H F found r)(hF:Fr (SrC z.S r0) H1 H)(f:Fr (SrC z.S r) H H'):Fr (SrC z.S r0) H1 H':=
 hF.then f λ_ hk=>hk.elim (λe=>.inr (.inl e)) λe=>(h.rr _ e).elim (λh=>.inr (.inr h)) .inl
def SlI.step{z:Sg}{X:Nat->Prop}{H1 H H':Hp}{F:AC}{found:List (List Fx)}{r0 r:Option Nat}{u:AC}{l:List Int}(h:SlI H u l)(hW:Wk z X H1 r0 H F found r)(f:Fr (SrC z.S r) H H')(hu:∀k,SrX z.S z.N k->k∉(AV.one u).ids):SlI H' u l:=
 SlC.fr h f λk hk hh=>hu k (hh.imp id λe=>hW.st.rn k e) hk
def Ym{c:Code}(hc:atF Tryz.f102 [1,0,1,1,1,1,1,1,1,1,0,0,1,1,0,0,1,1,1]=some c){z:Sg}(D0:lA z.ld z.lr z.v)(N6:z.c≤3){X0:Nat->Prop}{H1:Hp}{b l:Nat}{iv nv mv F0:AC}{items:List Fx}{given:List Nat}{r0 r1:Option Nat}{f0 found0:List (List Fx)}{H:Hp}{A:aa}{K:ak->aa->Hp->Prop}{dl0:List Nat}
  (hB:Bs z H1 b iv nv mv (l+1) items given r0) (hF0:Fr (SrC z.S r0) H1 H) (hW0:Wk z X0 H1 r0 H F0 found0 r1) (hD0:DfM X0 H1 H dl0) (T3:sQ z l) {w:Option Nat} {i RB:Nat} {rl:Rl} {u1 u102 u103 u104:AC}
  (P3:z.lr[i]?=some rl) (hL0:LpZ z items given f0 found0 (sU z items given w i rl rl.2)) (C':SlI H u1 rl.2) (huk:∀k,SrX z.S z.N k->k∉(AV.one u1).ids)
  (hRB:H.get RB=some (.arr [.i .i64 rl.1,u1] 82 0 0)) (hRX:X0 RB) (hRS:RB≠z.S)
  (hs:slot A.tm 4=.one ((.o (.ptr z.C1 0 0 1)))∧slot A.tm 5=.one ((.o (.ptr z.C2 0 0 1)))∧slot A.tm 6=.one ((.o (.ptr z.C3 0 0 1)))∧slot A.tm 7=.one ((.o (.ptr b 0 0 1)))∧slot A.tm 8=.one ((.o (.ptr (b+1) 0 0 1)))∧slot A.tm 9=.one ((.o (.ptr (b+2) 0 0 1)))∧slot A.tm 10=.one ((.o (.ptr (b+3) 0 0 1)))∧slot A.tm 11=.one ((.i .i64 (wI w)))∧slot A.tm 16=.one ((.i .i64 (i:Int)))∧slot A.tm 17=.one ((.o (.ptr RB 0 0 2)))∧slot A.tm 102=.one (u102)∧slot A.tm 103=.one (u103)∧slot A.tm 104=.one (u104)∧slot A.tm 123=.one (u1)∧slot A.tm 124=.one (.i .i64 (rl.2.length:Int))∧slot A.tm 125=.one (.i .i64 (0:Int))∧A.nt=228∧A.dfr=dl0)
  (hK:∀(A2:aa)(H2:Hp)(X':Nat->Prop)(F':AC)(r':Option Nat)(found':List (List Fx))(dl':List Nat),Fr (SrC z.S r0) H1 H2->(∀k,X0 k->X' k)->Wk z X' H1 r0 H2 F' found' r'->DfM X' H1 H2 dl'->LpZ z items given f0 found' (oF z items given w (i+1))->slot A2.tm 4=.one ((.o (.ptr z.C1 0 0 1)))∧slot A2.tm 5=.one ((.o (.ptr z.C2 0 0 1)))∧slot A2.tm 6=.one ((.o (.ptr z.C3 0 0 1)))∧slot A2.tm 7=.one ((.o (.ptr b 0 0 1)))∧slot A2.tm 8=.one ((.o (.ptr (b+1) 0 0 1)))∧slot A2.tm 9=.one ((.o (.ptr (b+2) 0 0 1)))∧slot A2.tm 10=.one ((.o (.ptr (b+3) 0 0 1)))∧slot A2.tm 11=.one ((.i .i64 (wI w)))∧slot A2.tm 102=.one (u102)∧slot A2.tm 103=.one (u103)∧slot A2.tm 104=.one (u104)∧A2.nt=228∧A2.dfr=dl'->K .normal A2 H2):R1 E2 none c A H K:=by
 cases hc
 obtain⟨t4,t5,t6,t7,t8,t9,t10,t11,t16,t17,t102,t103,t104,t123,t124,t125,A0,B0⟩:=hs
 have hrm:rl∈z.lr:=List.mem_of_getElem? P3;have G7:=D0.rp.pl rl hrm;have P4:=D0.rp.tr rl hrm;have I1:=D0.vl;have hSn:z.S<H1.nx:=by
  have h1:=hB.ne;have h2:=hB.n;exact Classical.byContradiction λhh=>h1 z.S (by omega) (.inl rfl)
 have hNn:z.N≤H1.nx:=by have:=hB.nb;have:=hB.n;omega
 obtain⟨J2,M5⟩:=ZB D0.rp hB.I hrm
 replace hB:=hd hB;replace hK:=hd hK;replace huk:=hd huk;replace I1:=hd I1;replace P3:=hd P3;replace hRX:=hd hRX;replace hRS:=hd hRS;refine R1.og λK1 k1 k2 k3 k4=>?_;refine R1.loop (λm A H2=>∃(j:Nat)(X:Nat->Prop)(F:AC)(r:Option Nat)(found:List (List Fx))(dl:List Nat),m=rl.2.length-j∧j≤rl.2.length∧Hd (Fr (SrC z.S r0) H1 H2)∧Hd (∀k,X0 k->X k)∧Hd (Wk z X H1 r0 H2 F found r)∧Hd (DfM X H1 H2 dl)∧Hd (LpZ z items given f0 found (sU z items given w i rl (rl.2.drop j)))∧Hd (SlI H2 u1 rl.2)∧H2.get RB=some (.arr [.i .i64 rl.1,u1] 82 0 0)∧slot A.tm 4=.one ((.o (.ptr z.C1 0 0 1)))∧slot A.tm 5=.one ((.o (.ptr z.C2 0 0 1)))∧slot A.tm 6=.one ((.o (.ptr z.C3 0 0 1)))∧slot A.tm 7=.one ((.o (.ptr b 0 0 1)))∧slot A.tm 8=.one ((.o (.ptr (b+1) 0 0 1)))∧slot A.tm 9=.one ((.o (.ptr (b+2) 0 0 1)))∧slot A.tm 10=.one ((.o (.ptr (b+3) 0 0 1)))∧slot A.tm 11=.one ((.i .i64 (wI w)))∧slot A.tm 16=.one ((.i .i64 (i:Int)))∧slot A.tm 17=.one ((.o (.ptr RB 0 0 2)))∧slot A.tm 102=.one (u102)∧slot A.tm 103=.one (u103)∧slot A.tm 104=.one (u104)∧slot A.tm 123=.one (u1)∧slot A.tm 124=.one (.i .i64 (rl.2.length:Int))∧slot A.tm 125=.one (.i .i64 (j:Int))∧A.nt=228∧A.dfr=dl) ?_ rl.2.length
  ⟨0,X0,F0,r1,found0,dl0,rfl,Nat.zero_le _,hF0,λ_ h=>h,hW0,hD0,by rw[List.drop_zero];exact hL0,C',hRB,t4,t5,t6,t7,t8,t9,t10,t11,t16,t17,t102,t103,t104,t123,t124,t125,A0,B0⟩
 clear t4 t5 t6 t7 t8 t9 t10 t11 t16 t17 t102 t103 t104 t123 t124 t125 A0 B0 A hF0 hW0 hD0 hL0 C' hRB H;rintro m A H2 ⟨j,X,F,r,found,dl,rfl,C8,hF,hX0,hW,hD,hL,hu,hRB,t4,t5,t6,t7,t8,t9,t10,t11,t16,t17,t102,t103,t104,t123,t124,t125,A0,B0⟩;refine zW tyR ?_;refine zI tyR (λq9=>?_) (λq9=>?_)
 ·have C0:j<rl.2.length:=by omega
  have ex:rl.2[j]?=some rl.2[j]:=zB4 C0;have N0:rl.2.drop j=rl.2[j]::rl.2.drop (j+1):=List.drop_eq_getElem_cons C0;have I2:rl.2.take (j+1)=rl.2.take j++[rl.2[j]]:=List.take_succ_eq_append_getElem C0;have E0:rl.2[j]∈rl.2:=List.getElem_mem C0;generalize rl.2[j]=p at ex N0 I2 E0;have B3:=zC0 j (by omega);have V2:=D0.rp.pr rl hrm p E0;have G_:p<z.ld.length:=by have:=I1.out;omega
  have hL:=hL.out;rw[N0]at hL;obtain⟨idp,gp,offp,cellsp,hu1e,hidp,hgrp,K0⟩:=hu.out.open (by omega)
  obtain⟨d1,d2⟩:=K0 j p ex
  clear K0 I2 N0;rw[hu1e]at t123;replace hu1e:=hd hu1e;replace ex:=hd ex;replace hL:=hd hL;replace E0:=hd E0;refine zW tyR ?_;refine R1.fb λK2 q1 q2 q3 q4=>?_;refine zG (qA tyR (ixC C0)) λK5 P1=>?_;refine P1.out _ _ ?_;refine R1.gen (λA4 H4=>Gr H2 H4∧H2.nx<H4.nx∧H4.get H2.nx=some (.arr [.i .i64 p] 3 0 0)∧slot A4.tm 4=.one ((.o (.ptr z.C1 0 0 1)))∧slot A4.tm 5=.one ((.o (.ptr z.C2 0 0 1)))∧slot A4.tm 6=.one ((.o (.ptr z.C3 0 0 1)))∧slot A4.tm 7=.one ((.o (.ptr b 0 0 1)))∧slot A4.tm 8=.one ((.o (.ptr (b+1) 0 0 1)))∧slot A4.tm 9=.one ((.o (.ptr (b+2) 0 0 1)))∧slot A4.tm 10=.one ((.o (.ptr (b+3) 0 0 1)))∧slot A4.tm 11=.one ((.i .i64 (wI w)))∧slot A4.tm 16=.one ((.i .i64 (i:Int)))∧slot A4.tm 17=.one ((.o (.ptr RB 0 0 2)))∧slot A4.tm 102=.one (u102)∧slot A4.tm 103=.one (u103)∧slot A4.tm 104=.one (u104)∧slot A4.tm 19=.one ((.o (.ptr H2.nx 0 0 1)))∧slot A4.tm 123=.one (u1)∧slot A4.tm 124=.one (.i .i64 (rl.2.length:Int))∧slot A4.tm 125=.one (.i .i64 (j:Int))∧A4.nt=228∧A4.dfr=dl)
   ⟨((Fr.refl _).new _).mod _ (.inl (zA1 _)),zA6 _,an rfl,by rw[hu1e.out];exact zL⟩ ?_
  clear t4 t5 t6 t7 t8 t9 t10 t11 t16 t17 t102 t103 t104 t123 t124 t125 A0 B0 A hidp hgrp d1 d2 P1 K5;rintro A H4 ⟨g4,n4,hPB,t4,t5,t6,t7,t8,t9,t10,t11,t16,t17,t102,t103,t104,t19,t123,t124,t125,A0,B0⟩;obtain⟨PB,hPe⟩:∃q,q=H2.nx:=⟨_,rfl⟩
  rw[<-hPe]at n4 hPB t19;have F2:=hW.out.grow g4;have R7:Fr (SrC z.S r0) H1 H4:=hF.out.gr g4;have hn12:H1.nx≤H2.nx:=hW.out.nx.1;obtain⟨X4,hX4⟩:∃X4,X4=Xp X H2.nx H4.nx:=⟨_,rfl⟩
  rw[<-hX4]at F2;have N9:∀k,X k->X4 k:=λk hk=>by rw[hX4];exact .inl hk
  have hXP:X4 PB:=by rw[hX4];exact .inr ⟨by omega,n4⟩
  have hPS:PB≠z.S:=by omega
  have hD4:DfM X4 H1 H4 dl:=(hD.out.fr2 g4 λ_ _ h=>h).wide N9;have U5:∀k,X0 k->X4 k:=λk hk=>N9 k (hX0.out k hk);have y9:SlI H4 u1 rl.2:=SlI.gr hu.out g4;have hRn:RB<H2.nx:=hW.out.st.xn RB (hX0.out RB hRX.out);have hR4:H4.get RB=some (.arr [.i .i64 rl.1,u1] 82 0 0):=(g4.get _ hRn zB2).trans hRB;have hRn4:RB<H4.nx:=zA0 hRn g4.nx;obtain⟨x0,x1,x2,x3,⟨m0,m1⟩,m2,m3⟩:=hB.out.box F2.nx
  have l9:=hB.out.now F2.nx;obtain⟨o6,S5⟩:=F2.st.own
  obtain⟨idv,gv,offv,cellsv,a9,X6,I6,e3,e4⟩:=jm F2.st.dat.now.vi V2.1 V2.2
  have j9:=cA items z.v;obtain⟨idn,gn,offn,cellsn,hnve,hidn,hgrn,e5,e6⟩:=jm l9.nw V2.1 (by rw[j9];exact V2.2)
  have hpa:p<(aM z.v items).length:=by rw[j9];exact V2.2
  have c1:z.C1<H4.nx:=by have:=F2.st.clo.n;omega
  have G1:=F2.st.clo.g1;have x1':=x1;rw[hnve]at x1';have S':=S5;rw[a9]at S';replace F2:=hd F2;replace R7:=hd R7;replace hX4:=hd hX4;replace N9:=hd N9;replace hXP:=hd hXP;replace hPS:=hd hPS;replace hPe:=hd hPe;replace hD4:=hd hD4;replace U5:=hd U5;replace y9:=hd y9;replace l9:=hd l9;replace a9:=hd a9;replace hnve:=hd hnve;replace j9:=hd j9;clear x1 S5;by_cases e:(aM z.v items).getD p.toNat 0=z.v.getD p.toNat 0
  ·have ce:((aM z.v items).getD p.toNat 0==z.v.getD p.toNat 0)=true:=beq_iff_eq.2 e;replace e:=hd e;refine zG (zDd tyR (ixI V2.1 hpa) (ixI V2.1 V2.2)) λK5 P1=>?_;refine P1.out _ _ ?_;refine R1.jw (λA5=>slot A5.tm 4=.one ((.o (.ptr z.C1 0 0 1)))∧slot A5.tm 5=.one ((.o (.ptr z.C2 0 0 1)))∧slot A5.tm 6=.one ((.o (.ptr z.C3 0 0 1)))∧slot A5.tm 7=.one ((.o (.ptr b 0 0 1)))∧slot A5.tm 8=.one ((.o (.ptr (b+1) 0 0 1)))∧slot A5.tm 9=.one ((.o (.ptr (b+2) 0 0 1)))∧slot A5.tm 10=.one ((.o (.ptr (b+3) 0 0 1)))∧slot A5.tm 11=.one ((.i .i64 (wI w)))∧slot A5.tm 16=.one ((.i .i64 (i:Int)))∧slot A5.tm 17=.one ((.o (.ptr RB 0 0 2)))∧slot A5.tm 102=.one (u102)∧slot A5.tm 103=.one (u103)∧slot A5.tm 104=.one (u104)∧slot A5.tm 19=.one ((.o (.ptr PB 0 0 1)))∧slot A5.tm 123=.one (u1)∧slot A5.tm 124=.one (.i .i64 (rl.2.length:Int))∧slot A5.tm 125=.one (.i .i64 (j:Int))∧slot A5.tm 140=.one (.b false)∧A5.nt=228∧A5.dfr=dl) zL ?_;clear t4 t5 t6 t7 t8 t9 t10 t11 t16 t17 t102 t103 t104 t19 t123 t124 t125 A0 B0 A P1 K5;rintro A ⟨t4,t5,t6,t7,t8,t9,t10,t11,t16,t17,t102,t103,t104,t19,t123,t124,t125,t140,A0,B0⟩;refine qX (qA tyR t140) ?_;refine R1.bA ?_;repeat refine R1.aF ?_
   refine R1.rA (λB H=>H=H4∧slot B.tm 4=.one ((.o (.ptr z.C1 0 0 1)))∧slot B.tm 5=.one ((.o (.ptr z.C2 0 0 1)))∧slot B.tm 6=.one ((.o (.ptr z.C3 0 0 1)))∧slot B.tm 7=.one ((.o (.ptr b 0 0 1)))∧slot B.tm 8=.one ((.o (.ptr (b+1) 0 0 1)))∧slot B.tm 9=.one ((.o (.ptr (b+2) 0 0 1)))∧slot B.tm 10=.one ((.o (.ptr (b+3) 0 0 1)))∧slot B.tm 11=.one ((.i .i64 (wI w)))∧slot B.tm 16=.one ((.i .i64 (i:Int)))∧slot B.tm 17=.one ((.o (.ptr RB 0 0 2)))∧slot B.tm 102=.one (u102)∧slot B.tm 103=.one (u103)∧slot B.tm 104=.one (u104)∧slot B.tm 19=.one ((.o (.ptr PB 0 0 1)))∧slot B.tm 123=.one (u1)∧slot B.tm 124=.one (.i .i64 (rl.2.length:Int))∧slot B.tm 125=.one (.i .i64 (j:Int))∧slot B.tm 147=.one (.b (decide (l=0∧w=some i)))∧B.nt=228∧B.dfr=dl) (λK6 m1 m2 m3=>?_) ?_
   ·by_cases j5:l=0
    ·have cl:(((l+1:Nat):Int)==1)=true:=by rw[j5];rfl
     by_cases T_:w=some i
     ·have cw:((i:Int)==wI w)=true:=by rw[T_];exact beq_self_eq_true _
      have F1:decide (l=0∧w=some i)=true:=decide_eq_true ⟨j5,T_⟩;rw[F1]at m1;clear F1;replace T_:=hd T_;replace j5:=hd j5;refine zG tyR λK5 P1=>?_;refine P1.out _ _ ?_;exact m1.out _ _ ⟨rfl,zL⟩
     have cw:((i:Int)==wI w)=false:=zB5 λh=>T_ (by
      cases w with
      |none=>have:(i:Int)=-1:=h;omega
      |some q=>have:(i:Int)=(q:Int):=h;rw[show q=i by omega])
     have F1:decide (l=0∧w=some i)=false:=decide_eq_false λh=>T_ h.2;rw[F1]at m1;clear F1;replace T_:=hd T_;replace j5:=hd j5;refine zG tyR λK5 P1=>?_;refine P1.out _ _ ?_;exact m1.out _ _ ⟨rfl,zL⟩
    have cl:(((l+1:Nat):Int)==1)=false:=zB5 (by omega);have F1:decide (l=0∧w=some i)=false:=decide_eq_false λh=>j5 h.1;rw[F1]at m1;clear F1;replace j5:=hd j5;refine zG tyR λK5 P1=>?_;refine P1.out _ _ ?_;exact m1.out _ _ ⟨rfl,zL⟩
   clear t4 t5 t6 t7 t8 t9 t10 t11 t16 t17 t102 t103 t104 t19 t123 t124 t125 t140 A0 B0 A;rintro A H9 ⟨rfl,t4,t5,t6,t7,t8,t9,t10,t11,t16,t17,t102,t103,t104,t19,t123,t124,t125,t147,A0,B0⟩;by_cases hT:l=0∧w=some i
   ·rw[decide_eq_true hT]at t147;obtain⟨j5,T_⟩:=hT
    subst T_;have hcc1:items.length+given.length+1=z.c:=by have:=hB.out.cc;omega
    obtain⟨to,hto⟩:∃t,t=z.v.getD p.toNat 0+z.v.getD rl.1.toNat 0-aY (aM z.v items) 0 rl.2:=⟨_,rfl⟩
    have G8:=(D0.lad V2.1 V2.2).2;have R6:=(D0.lad P4.1 P4.2).2;have w8:IntKind.i64.wrap (z.v.getD p.toNat 0+z.v.getD rl.1.toNat 0)=z.v.getD p.toNat 0+z.v.getD rl.1.toNat 0:=aP (by omega) (by omega);have I5:IntKind.i64.wrap (z.v.getD p.toNat 0+z.v.getD rl.1.toNat 0-aY (aM z.v items) 0 rl.2)=to:=by rw[hto];exact aP (by omega) (by omega)
    rw[<-hnve.out]at x1';obtain⟨idv',gv',offv',cellsv',t_,_,hgrv',e3',e4'⟩:=jm F2.out.st.dat.now.vi P4.1 P4.2
    rw[a9.out]at t_;cases t_
    have o_:=I6.symm.trans hgrv';cases o_
    have V7:=D0.rp.pr rl hrm;have lu4:=y9.out.lt;have v3:=l9.out.nw.lt;clear hgrv';replace hto:=hd hto;replace j5:=hd j5;replace hcc1:=hd hcc1;replace V7:=hd V7;refine qX (qA tyR t147) ?_;refine zO (zDe tyR (ixI V2.1 V2.2) (ixI P4.1 P4.2) pK) λK5 P1=>?_;refine WE.xk (nT _ u1 nv rl.1 rl.2 (aM z.v items) y9.out l9.out.nw (by rw[cA];exact V7.out) (by omega)) λw' H5 g5 hq5=>?_;subst hq5;refine zQ tyR ?_;refine P1.out _ _ ?_;have O6:=F2.out.gr g5;have z7:Fr (SrC z.S r0) H1 H5:=R7.out.gr g5;have w9:DfM X4 H1 H5 dl:=hD4.out.fr2 g5 λ_ _ h=>h;have W4:SlI H5 u1 rl.2:=SlI.gr y9.out g5;have hP5:=(g5.get _ n4 zB2).trans hPB;have hR5:=(g5.get _ hRn4 zB2).trans hR4;have n5:=zA0 n4 g5.nx;have hRn5:=zA0 hRn4 g5.nx;refine R1.jw (λA5=>slot A5.tm 4=.one ((.o (.ptr z.C1 0 0 1)))∧slot A5.tm 5=.one ((.o (.ptr z.C2 0 0 1)))∧slot A5.tm 6=.one ((.o (.ptr z.C3 0 0 1)))∧slot A5.tm 7=.one ((.o (.ptr b 0 0 1)))∧slot A5.tm 8=.one ((.o (.ptr (b+1) 0 0 1)))∧slot A5.tm 9=.one ((.o (.ptr (b+2) 0 0 1)))∧slot A5.tm 10=.one ((.o (.ptr (b+3) 0 0 1)))∧slot A5.tm 11=.one ((.i .i64 (wI (some i))))∧slot A5.tm 16=.one ((.i .i64 (i:Int)))∧slot A5.tm 17=.one ((.o (.ptr RB 0 0 2)))∧slot A5.tm 102=.one (u102)∧slot A5.tm 103=.one (u103)∧slot A5.tm 104=.one (u104)∧slot A5.tm 19=.one ((.o (.ptr PB 0 0 1)))∧slot A5.tm 123=.one (u1)∧slot A5.tm 124=.one (.i .i64 (rl.2.length:Int))∧slot A5.tm 125=.one (.i .i64 (j:Int))∧slot A5.tm 20=.one (.i .i64 (to:Int))∧A5.nt=228∧A5.dfr=dl) zL ?_;clear t4 t5 t6 t7 t8 t9 t10 t11 t16 t17 t102 t103 t104 t19 t123 t124 t125 t147 A0 B0 A P1 K5 I6 e3 e4 e3' e4' S' o6 G1 c1 x0 x1' x2 x3 m0 m1 m2 m3 lu4 v3 hgrn hidn e5 e6 hPB hR4 n4 hRn4 X6;rintro A ⟨t4,t5,t6,t7,t8,t9,t10,t11,t16,t17,t102,t103,t104,t19,t123,t124,t125,t20,A0,B0⟩;replace l9:=l9.out;obtain⟨o6,S'⟩:=O6.st.own
    obtain⟨idv',gv',offv',cellsv',t_,X6,I6,e3,e4⟩:=jm O6.st.dat.now.vi V2.1 V2.2
    obtain⟨idl,gl,offl,cellsl,ul,E6,U9,R8,O4,f3,f4⟩:=qg O6.st.dat.now.la V2.1 G_
    rw[t_,E6]at S';have c1:z.C1<H5.nx:=by have:=O6.st.clo.n;omega
    have G1:=O6.st.clo.g1;obtain⟨x0,x1,x2,x3,⟨m0,m1⟩,m2,m3⟩:=hB.out.box O6.nx
    replace O6:=hd O6;replace z7:=hd z7;replace w9:=hd w9;replace W4:=hd W4;replace t_:=hd t_;replace E6:=hd E6;replace O4:=hd O4;replace l9:=hd l9;have L7:=Wr I1.out D0.ck D0.vr p to;repeat refine R1.aF ?_
    refine R1.rA (λB H=>Gr H5 H∧slot B.tm 4=.one ((.o (.ptr z.C1 0 0 1)))∧slot B.tm 5=.one ((.o (.ptr z.C2 0 0 1)))∧slot B.tm 6=.one ((.o (.ptr z.C3 0 0 1)))∧slot B.tm 7=.one ((.o (.ptr b 0 0 1)))∧slot B.tm 8=.one ((.o (.ptr (b+1) 0 0 1)))∧slot B.tm 9=.one ((.o (.ptr (b+2) 0 0 1)))∧slot B.tm 10=.one ((.o (.ptr (b+3) 0 0 1)))∧slot B.tm 11=.one ((.i .i64 (wI (some i))))∧slot B.tm 16=.one ((.i .i64 (i:Int)))∧slot B.tm 17=.one ((.o (.ptr RB 0 0 2)))∧slot B.tm 102=.one (u102)∧slot B.tm 103=.one (u103)∧slot B.tm 104=.one (u104)∧slot B.tm 19=.one ((.o (.ptr PB 0 0 1)))∧slot B.tm 123=.one (u1)∧slot B.tm 124=.one (.i .i64 (rl.2.length:Int))∧slot B.tm 125=.one (.i .i64 (j:Int))∧slot B.tm 20=.one (.i .i64 (to:Int))∧slot B.tm 192=.one (.b (decide (kF z.ld z.v p to≠0)))∧B.nt=228∧B.dfr=dl) (λK6 m1 m2 m3=>?_) ?_
    ·by_cases b1:(1:Int)≤to
     ·by_cases b2:to≤1099511627776
      ·replace L7:=hd L7;refine zO (zDe tyR (ixI V2.1 V2.2) (ixI V2.1 G_) tO) λK5 P1=>?_;refine WE.xk (rV D0 H5 p to ul V2.1 V2.2 O4.out) λw' H6 g6 hq6=>?_;subst hq6;by_cases Q3:kF z.ld z.v p to=0
       ·have ck:(kF z.ld z.v p to==0)=true:=beq_iff_eq.2 Q3;have F1:decide (kF z.ld z.v p to≠0)=false:=decide_eq_false λh=>h Q3;rw[F1]at m1;clear F1;replace Q3:=hd Q3;refine zQ tyR ?_;refine P1.out _ _ ?_;exact m1.out _ _ ⟨g6,zL⟩
       have ck:(kF z.ld z.v p to==0)=false:=zB5 Q3;have F1:decide (kF z.ld z.v p to≠0)=true:=decide_eq_true Q3;rw[F1]at m1;clear F1;replace Q3:=hd Q3;refine zQ tyR ?_;refine P1.out _ _ ?_;exact m1.out _ _ ⟨g6,zL⟩
      have F1:decide (kF z.ld z.v p to≠0)=false:=decide_eq_false λh=>b2 (L7 h).1.2;rw[F1]at m1;clear F1;replace L7:=hd L7;refine zO tyR λK5 P1=>?_;refine P1.out _ _ ?_;exact m1.out _ _ ⟨Fr.refl _,zL⟩
     have F1:decide (kF z.ld z.v p to≠0)=false:=decide_eq_false λh=>b1 (L7 h).1.1;rw[F1]at m1;clear F1;replace L7:=hd L7;refine zO tyR λK5 P1=>?_;refine P1.out _ _ ?_;exact m1.out _ _ ⟨Fr.refl _,zL⟩
    clear t4 t5 t6 t7 t8 t9 t10 t11 t16 t17 t102 t103 t104 t19 t123 t124 t125 t20 A0 B0 A o6 S' I6 X6 e3 e4 R8 U9 f3 f4 G1 c1 x0 x1 x2 x3 m0 m1 m2 m3 L7;rintro A H6 ⟨g6,t4,t5,t6,t7,t8,t9,t10,t11,t16,t17,t102,t103,t104,t19,t123,t124,t125,t20,t192,A0,B0⟩;have O7:=O6.out.gr g6;have O9:Fr (SrC z.S r0) H1 H6:=z7.out.gr g6;have hD6:DfM X4 H1 H6 dl:=w9.out.fr2 g6 λ_ _ h=>h;have A6:SlI H6 u1 rl.2:=SlI.gr W4.out g6;have hP6:=(g6.get _ n5 zB2).trans hP5;have hR6:=(g6.get _ hRn5 zB2).trans hR5;have n6:=zA0 n5 g6.nx;have hRn6:=zA0 hRn5 g6.nx;clear hP5 hR5 n5 hRn5 O4;by_cases Q3:kF z.ld z.v p to=0
    ·have F1:decide (kF z.ld z.v p to≠0)=false:=decide_eq_false λh=>h Q3;rw[F1]at t192;clear F1;have hL6:LpZ z items given f0 found (sU z items given (some i) i rl (rl.2.drop (j+1))):=Lp.no D0.rp hL.out hcc1.out hrm E0.out (by rw[<-hto.out];exact Q3);replace Q3:=hd Q3;replace hL6:=hd hL6;replace O7:=hd O7;replace O9:=hd O9;replace hD6:=hd hD6;replace A6:=hd A6;refine qX (qA tyR t192) ?_;refine zW tyR ?_;refine q2.out _ _ ?_;refine zW tyR ?_;exact⟨rl.2.length-(j+1),by omega,j+1,X4,F,r,found,dl,rfl,C0,O9,U5,O7,hD6,hL6,A6,hR6,zL⟩
    have F1:decide (kF z.ld z.v p to≠0)=true:=decide_eq_true Q3;rw[F1]at t192;clear F1;have hk6:=hB.out.kpn O7.nx O7.rr;obtain⟨x0,x1,x2,x3,⟨m0,m1⟩,m2,m3⟩:=hB.out.box O7.nx
    have i3:=hk6.now.it.lt;have v3:=hk6.now.nw.lt;have w3:=hk6.now.gv.lt;have c3:z.C3<H6.nx:=by have:=O7.st.clo.n;omega
    have G3:=O7.st.clo.g3;replace Q3:=hd Q3;replace hk6:=hd hk6;replace O7:=hd O7;replace O9:=hd O9;replace hD6:=hd hD6;replace A6:=hd A6;refine qX (qA tyR t192) ?_;refine zG (qA tyR QQ) λK5 P1=>?_;refine WE.con (KO D0 N6 T3 X4 H6 iv nv mv F items given found r p to rl O7.out.st hk6.out hB.out.I hB.out.nd hB.out.gl hB.out.cc hrm E0.out e.out Q3.out) λw' H7 f7⟨hw,hq⟩=>?_;subst hw;obtain⟨F7,r7,found7,hW7,I_,hP7⟩:=O7.out.call2 f7 hq
    have hL7:=Lp.yes D0.rp hL.out hcc1.out hrm E0.out hto.out hP7;have hF7:=O7.out.frc O9.out f7;have hu7:=SlI.step A6.out O7.out f7 huk.out;have hR7:H7.get RB=some (.arr [.i .i64 rl.1,u1] 82 0 0):=(f7.get _ hRn6 (O7.out.kept (U5.out RB hRX.out) hRS.out)).trans hR6;have hD7:DfM X4 H1 H7 dl:=hD6.out.fr2 f7 λd hd=>O7.out.kept (hD6.out.2 d hd).1 (by have:=(hD6.out.2 d hd).2.1;omega);clear hP7 hq I_;replace hW7:=hd hW7;replace hL7:=hd hL7;replace hF7:=hd hF7;replace hu7:=hd hu7;replace hD7:=hd hD7;replace f7:=hd f7;refine zS tyR ?_;refine P1.out _ _ ?_;refine zW tyR ?_;refine q2.out _ _ ?_;refine zW tyR ?_;exact⟨rl.2.length-(j+1),by omega,j+1,X4,F7,r7,found7,dl,rfl,C0,hF7,U5,hW7,hD7,hL7,hu7,hR7,zL⟩
   rw[decide_eq_false hT]at t147;replace hT:=hd hT;refine qX (qA tyR t147) ?_;refine R1.bA ?_;refine Zg rfl D0 N6 hB.out F2.out hD4.out T3 hrm E0.out e.out hL.out hPB hXP.out hPS.out ⟨t4,t5,t6,t7,t8,t9,t10,t11,t16,t17,t102,t103,t104,t123,t124,t125,t19,A0,B0⟩ λA2 H5 X5 F5 r5 found5 dl5 f5 l8 O6 w9 Q7 hs5=>?_;clear t147 t4 t5 t6 t7 t8 t9 t10 t11 t16 t17 t102 t103 t104 t19 t123 t124 t125 A0 B0 A;obtain⟨t4,t5,t6,t7,t8,t9,t10,t11,t16,t17,t102,t103,t104,t123,t124,t125,A0,B0⟩:=hs5
   have z7:=F2.out.frc R7.out f5;have W4:=SlI.step y9.out F2.out f5 huk.out;have hR5:H5.get RB=some (.arr [.i .i64 rl.1,u1] 82 0 0):=(f5.get _ hRn4 (F2.out.kept (U5.out RB hRX.out) hRS.out)).trans hR4;have hX5:∀k,X0 k->X5 k:=λk hk=>l8 k (U5.out k hk);replace z7:=hd z7;replace W4:=hd W4;replace hX5:=hd hX5;replace l8:=hd l8;replace O6:=hd O6;replace w9:=hd w9;replace Q7:=hd Q7;replace f5:=hd f5;refine q1.out _ _ ?_;refine zW tyR ?_;exact⟨rl.2.length-(j+1),by omega,j+1,X5,F5,r5,found5,dl5,rfl,C0,z7,hX5,O6,w9,Q7,W4,hR5,zL⟩
  have ce:((aM z.v items).getD p.toNat 0==z.v.getD p.toNat 0)=false:=zB5 e;have Q7:LpZ z items given f0 found (sU z items given w i rl (rl.2.drop (j+1))):=Lp.had hL.out e;replace Q7:=hd Q7;replace e:=hd e;refine zG (zDd tyR (ixI V2.1 hpa) (ixI V2.1 V2.2)) λK5 P1=>?_;refine P1.out _ _ ?_;refine R1.jw (λA5=>slot A5.tm 4=.one ((.o (.ptr z.C1 0 0 1)))∧slot A5.tm 5=.one ((.o (.ptr z.C2 0 0 1)))∧slot A5.tm 6=.one ((.o (.ptr z.C3 0 0 1)))∧slot A5.tm 7=.one ((.o (.ptr b 0 0 1)))∧slot A5.tm 8=.one ((.o (.ptr (b+1) 0 0 1)))∧slot A5.tm 9=.one ((.o (.ptr (b+2) 0 0 1)))∧slot A5.tm 10=.one ((.o (.ptr (b+3) 0 0 1)))∧slot A5.tm 11=.one ((.i .i64 (wI w)))∧slot A5.tm 16=.one ((.i .i64 (i:Int)))∧slot A5.tm 17=.one ((.o (.ptr RB 0 0 2)))∧slot A5.tm 102=.one (u102)∧slot A5.tm 103=.one (u103)∧slot A5.tm 104=.one (u104)∧slot A5.tm 123=.one (u1)∧slot A5.tm 124=.one (.i .i64 (rl.2.length:Int))∧slot A5.tm 125=.one (.i .i64 (j:Int))∧slot A5.tm 140=.one (.b true)∧A5.nt=228∧A5.dfr=dl) zL ?_;clear t4 t5 t6 t7 t8 t9 t10 t11 t16 t17 t102 t103 t104 t19 t123 t124 t125 A0 B0 A P1 K5;rintro A ⟨t4,t5,t6,t7,t8,t9,t10,t11,t16,t17,t102,t103,t104,t123,t124,t125,t140,A0,B0⟩;refine zW tyR ?_;refine q2.out _ _ ?_;refine zW tyR ?_;exact⟨rl.2.length-(j+1),by omega,j+1,X4,F,r,found,dl,rfl,C0,R7,U5,F2,hD4,Q7,y9,hR4,zL⟩
 have Y_:j=rl.2.length:=by omega
 have hLe:LpZ z items given f0 found (oF z items given w (i+1)):=Lp.close (by
  have:=hL.out;rw[Y_,List.drop_length]at this;exact this)
 replace hLe:=hd hLe;clear Y_;refine zW tyR ?_;refine k2.out _ _ ?_;exact hK.out _ _ X F r found dl hF.out hX0.out hW.out hD.out hLe.out zL
section
variable{S N:Nat}{H H':Hp}{pc pr la vv:AC}{lc:List Cl}{lr:List Rl}{ld:List Lad}{v:List Int}
theorem SrD.parts(h:SrD S N H pc pr la vv lc lr ld v){i:Nat}{x:Rl}(hi:lr[i]?=some x){id g off:Nat}{cells:List AC}{u:AC}(V7:pr=.o (.sl id g off lr.length 2))(hr:rowOf (H.get id) g=some cells)(hf:(cells.drop (off+i*2)).take 2=[.i .i64 x.1,u]){k:Nat}(hk:SrX S N k):k∉(AV.one u).ids:=by
 have hx:(H.mod k (.oth (.dfr true))).get k=some (.oth (.dfr true)):=an rfl;have hF:=h.2 (H.mod k (.oth (.dfr true))) (zA1 _) λi hi hn=>au λe=>hn (by rw[e];exact hk);have hlen:0<lr.length:=Nat.lt_of_le_of_lt (Nat.zero_le _) (List.getElem?_eq_some_iff.1 hi).1;obtain⟨id',g',off',cells',e1,_,E3,K0⟩:=hF.rl.open hlen
 obtain⟨u',F_,y1,_⟩:=K0 i x hi
 rw[V7]at e1;injection e1 with e1
 injection e1 with e1 e2 e3
 subst e1 e2 e3;by_cases e:id=k
 ·rw[e,hx,od]at E3;cases E3
 rw[au e,hr]at E3;cases E3
 rw[hf]at y1;injection y1 with _ y1
 injection y1 with y1 _
 subst y1;exact SlC.no (H:=H) F_ hx
end
def XY{c:Code}(hc:atF Tryz.f102 [1,0,1,1,1,1,1,1,1,1]=some c){z:Sg}(D0:lA z.ld z.lr z.v)(N6:z.c≤3){X0:Nat->Prop}{H1:Hp}{b l:Nat}{iv nv mv F0:AC}{items:List Fx}{given:List Nat}{r0 r1:Option Nat}{f0 found0:List (List Fx)}{H:Hp}{A:aa}{K:ak->aa->Hp->Prop}{dl0:List Nat}
  (hB:Bs z H1 b iv nv mv (l+1) items given r0) (hF0:Fr (SrC z.S r0) H1 H) (hW0:Wk z X0 H1 r0 H F0 found0 r1) (hD0:DfM X0 H1 H dl0) (T3:sQ z l) {w:Option Nat}
  (hL0:LpZ z items given f0 found0 (oF z items given w 0))
  (hs:slot A.tm 4=.one ((.o (.ptr z.C1 0 0 1)))∧slot A.tm 5=.one ((.o (.ptr z.C2 0 0 1)))∧slot A.tm 6=.one ((.o (.ptr z.C3 0 0 1)))∧slot A.tm 7=.one ((.o (.ptr b 0 0 1)))∧slot A.tm 8=.one ((.o (.ptr (b+1) 0 0 1)))∧slot A.tm 9=.one ((.o (.ptr (b+2) 0 0 1)))∧slot A.tm 10=.one ((.o (.ptr (b+3) 0 0 1)))∧slot A.tm 11=.one ((.i .i64 (wI w)))∧slot A.tm 102=.one (z.pr)∧slot A.tm 103=.one (.i .i64 (z.lr.length:Int))∧slot A.tm 104=.one (.i .i64 (0:Int))∧A.nt=228∧A.dfr=dl0)
  (hK:∀(A2:aa)(H2:Hp)(X':Nat->Prop)(F':AC)(r':Option Nat)(found':List (List Fx))(dl':List Nat),Fr (SrC z.S r0) H1 H2->(∀k,X0 k->X' k)->Wk z X' H1 r0 H2 F' found' r'->DfM X' H1 H2 dl'->lS z.v z.lr (kF z.ld z.v) z.c z.limit items given f0 found'->A2.dfr=dl'->K .normal A2 H2):R1 E2 none c A H K:=by
 cases hc
 obtain⟨t4,t5,t6,t7,t8,t9,t10,t11,t102,t103,t104,A0,B0⟩:=hs
 have hr64:=D0.r64;have hSn:z.S<H1.nx:=by
  have h1:=hB.ne;have h2:=hB.n;exact Classical.byContradiction λhh=>h1 z.S (by omega) (.inl rfl)
 replace hB:=hd hB;replace hK:=hd hK;refine R1.og λK1 k1 k2 k3 k4=>?_;refine R1.loop (λm A H2=>∃(i:Nat)(X:Nat->Prop)(F:AC)(r:Option Nat)(found:List (List Fx))(dl:List Nat),m=z.lr.length-i∧i≤z.lr.length∧Hd (Fr (SrC z.S r0) H1 H2)∧Hd (∀k,X0 k->X k)∧Hd (Wk z X H1 r0 H2 F found r)∧Hd (DfM X H1 H2 dl)∧Hd (LpZ z items given f0 found (oF z items given w i))∧slot A.tm 4=.one ((.o (.ptr z.C1 0 0 1)))∧slot A.tm 5=.one ((.o (.ptr z.C2 0 0 1)))∧slot A.tm 6=.one ((.o (.ptr z.C3 0 0 1)))∧slot A.tm 7=.one ((.o (.ptr b 0 0 1)))∧slot A.tm 8=.one ((.o (.ptr (b+1) 0 0 1)))∧slot A.tm 9=.one ((.o (.ptr (b+2) 0 0 1)))∧slot A.tm 10=.one ((.o (.ptr (b+3) 0 0 1)))∧slot A.tm 11=.one ((.i .i64 (wI w)))∧slot A.tm 102=.one (z.pr)∧slot A.tm 103=.one (.i .i64 (z.lr.length:Int))∧slot A.tm 104=.one (.i .i64 (i:Int))∧A.nt=228∧A.dfr=dl) ?_ z.lr.length
  ⟨0,X0,F0,r1,found0,dl0,rfl,Nat.zero_le _,hF0,λ_ h=>h,hW0,hD0,hL0,t4,t5,t6,t7,t8,t9,t10,t11,t102,t103,t104,A0,B0⟩
 clear t4 t5 t6 t7 t8 t9 t10 t11 t102 t103 t104 A0 B0 A hF0 hW0 hD0 hL0 H;rintro m A H2 ⟨i,X,F,r,found,dl,rfl,C4,hF,hX0,hW,hD,hL,t4,t5,t6,t7,t8,t9,t10,t11,t102,t103,t104,A0,B0⟩;refine zW tyR ?_;refine zI tyR (λq9=>?_) (λq9=>?_)
 ·have C0:i<z.lr.length:=by omega
  have ex:z.lr[i]?=some z.lr[i]:=zB4 C0;have N0:z.lr.drop i=z.lr[i]::z.lr.drop (i+1):=List.drop_eq_getElem_cons C0;have I2:z.lr.take (i+1)=z.lr.take i++[z.lr[i]]:=List.take_succ_eq_append_getElem C0;have E0:z.lr[i]∈z.lr:=List.getElem_mem C0;generalize z.lr[i]=x at ex N0 I2 E0;have B3:=zC0 i (by omega);have hDn:=hW.out.st.dat;obtain⟨idr,g,off,cells,W6,hid,B1,K0⟩:=hDn.now.rl.open (by omega)
  obtain⟨u1,O0⟩:=K0 i x ex
  obtain⟨X1,y1,y2,_,_,_,_⟩:=O0
  have huk:∀k,SrX z.S z.N k->k∉(AV.one u1).ids:=λk hk=>hDn.parts ex W6 B1 y1 hk;rw[W6]at t102;clear K0 I2 N0;replace W6:=hd W6;replace ex:=hd ex;replace E0:=hd E0;replace huk:=hd huk;replace hDn:=hd hDn;have lu1:=X1.lt;replace X1:=hd X1;refine zW tyR ?_;refine R1.fb λK2 q1 q2 q3 q4=>?_;refine zG (qA tyR (ixC C0)) λK5 P1=>?_;refine P1.out _ _ ?_;refine R1.gen (λA4 H4=>Gr H2 H4∧H2.nx<H4.nx∧H4.get H2.nx=some (.arr [.i .i64 x.1,u1] 82 0 0)∧slot A4.tm 4=.one ((.o (.ptr z.C1 0 0 1)))∧slot A4.tm 5=.one ((.o (.ptr z.C2 0 0 1)))∧slot A4.tm 6=.one ((.o (.ptr z.C3 0 0 1)))∧slot A4.tm 7=.one ((.o (.ptr b 0 0 1)))∧slot A4.tm 8=.one ((.o (.ptr (b+1) 0 0 1)))∧slot A4.tm 9=.one ((.o (.ptr (b+2) 0 0 1)))∧slot A4.tm 10=.one ((.o (.ptr (b+3) 0 0 1)))∧slot A4.tm 11=.one ((.i .i64 (wI w)))∧slot A4.tm 102=.one ((.o (.sl idr g off z.lr.length 2)))∧slot A4.tm 103=.one (.i .i64 (z.lr.length:Int))∧slot A4.tm 104=.one (.i .i64 (i:Int))∧slot A4.tm 16=.one ((.i .i64 (i:Int)))∧slot A4.tm 17=.one ((.o (.ptr H2.nx 0 0 2)))∧A4.nt=228∧A4.dfr=dl)
   ⟨((Fr.refl _).new _).mod _ (.inl (zA1 _)),zA6 _,an rfl,zL⟩ ?_
  clear t4 t5 t6 t7 t8 t9 t10 t11 t102 t103 t104 A0 B0 A hid B1 y1 y2 P1 K5 lu1;rintro A H4 ⟨g4,n4,hRB,t4,t5,t6,t7,t8,t9,t10,t11,t102,t103,t104,t16,t17,A0,B0⟩;rw[<-W6.out]at t102;obtain⟨RB,hRe⟩:∃q,q=H2.nx:=⟨_,rfl⟩
  rw[<-hRe]at n4 hRB t17;have F2:=hW.out.grow g4;have R7:Fr (SrC z.S r0) H1 H4:=hF.out.gr g4;have hn12:H1.nx≤H2.nx:=hW.out.nx.1;obtain⟨X4,hX4⟩:∃X4,X4=Xp X H2.nx H4.nx:=⟨_,rfl⟩
  rw[<-hX4]at F2;have N9:∀k,X k->X4 k:=λk hk=>by rw[hX4];exact .inl hk
  have hXR:X4 RB:=by rw[hX4];exact .inr ⟨by omega,n4⟩
  have hRS:RB≠z.S:=by omega
  have hD4:DfM X4 H1 H4 dl:=(hD.out.fr2 g4 λ_ _ h=>h).wide N9;have U5:∀k,X0 k->X4 k:=λk hk=>N9 k (hX0.out k hk);have y9:SlI H4 u1 x.2:=SlI.gr X1.out g4;obtain⟨x0,x1,x2,x3,⟨m0,m1⟩,m2,m3⟩:=hB.out.box F2.nx
  have l9:=hB.out.now F2.nx;have I3:=l9.gv.look i;have hmv:=l9.gv.lt;replace F2:=hd F2;replace R7:=hd R7;replace hX4:=hd hX4;replace N9:=hd N9;replace hXR:=hd hXR;replace hRS:=hd hRS;replace hRe:=hd hRe;replace hD4:=hd hD4;replace U5:=hd U5;replace l9:=hd l9;have l1:=y9.len;have l2:=y9.lt;replace y9:=hd y9;by_cases q5:YE given w i
  ·repeat refine R1.aF ?_
   refine R1.rA (λB H=>H=H4∧slot B.tm 4=.one ((.o (.ptr z.C1 0 0 1)))∧slot B.tm 5=.one ((.o (.ptr z.C2 0 0 1)))∧slot B.tm 6=.one ((.o (.ptr z.C3 0 0 1)))∧slot B.tm 7=.one ((.o (.ptr b 0 0 1)))∧slot B.tm 8=.one ((.o (.ptr (b+1) 0 0 1)))∧slot B.tm 9=.one ((.o (.ptr (b+2) 0 0 1)))∧slot B.tm 10=.one ((.o (.ptr (b+3) 0 0 1)))∧slot B.tm 11=.one ((.i .i64 (wI w)))∧slot B.tm 102=.one (z.pr)∧slot B.tm 103=.one (.i .i64 (z.lr.length:Int))∧slot B.tm 104=.one (.i .i64 (i:Int))∧slot B.tm 16=.one ((.i .i64 (i:Int)))∧slot B.tm 17=.one ((.o (.ptr RB 0 0 2)))∧slot B.tm 121=.one (.b false)∧B.nt=228∧B.dfr=dl) (λK6 m1 m2 m3=>?_) ?_
   ·cases w with
    |some n=>
     have M1:i=n:=q5;subst M1;have cw:((i:Int)==wI (some i))=true:=beq_self_eq_true _;have cw1:((i:Int) != wI (some i))=false:=by rw[bne,cw];rfl
     replace q5:=hd q5;refine zG (qA tyR fJ) λK5 P1=>?_;refine P1.out _ _ ?_;exact m1.out _ _ ⟨rfl,zL⟩
    |none=>
     have M1:i∈given:=q5;have cw:((i:Int)==wI none)=false:=zB5 (by show(i:Int)≠-1;omega);have cw1:((i:Int) != wI none)=true:=by rw[bne,cw];rfl
     have cw2:¬(0:Int)≤wI none:=by show¬(0:Int)≤-1;decide
     rw[decide_eq_true M1]at I3;replace q5:=hd q5;replace M1:=hd M1;refine zG (qA tyR fJ) λK5 P1=>?_;refine P1.out _ _ ?_;exact m1.out _ _ ⟨rfl,zL⟩
   clear t4 t5 t6 t7 t8 t9 t10 t11 t102 t103 t104 t16 t17 A0 B0 A;rintro A H9 ⟨rfl,t4,t5,t6,t7,t8,t9,t10,t11,t102,t103,t104,t16,t17,t121,A0,B0⟩;have hLo:LpZ z items given f0 found (sU z items given w i x x.2):=Lp.open hL.out ex.out;replace q5:=hd q5;replace hLo:=hd hLo;refine qX (qA tyR t121) ?_;refine R1.bA ?_;repeat refine R1.aF ?_
   refine zG tyR λK5 P1=>?_;refine P1.out _ _ ?_;refine Ym rfl D0 N6 hB.out R7.out F2.out hD4.out T3 ex.out hLo.out y9.out huk.out hRB hXR.out hRS.out (u102:=z.pr) (u103:=.i .i64 (z.lr.length:Int)) (u104:=.i .i64 (i:Int)) zL λA2 H5 X5 F5 r5 found5 dl5 z7 l8 O6 w9 Q7 hs5=>?_;clear t4 t5 t6 t7 t8 t9 t10 t11 t102 t103 t104 t16 t17 t121 A0 B0 A;obtain⟨t4,t5,t6,t7,t8,t9,t10,t11,t102,t103,t104,A0,B0⟩:=hs5
   have hX5:∀k,X0 k->X5 k:=λk hk=>l8 k (U5.out k hk);replace hX5:=hd hX5;replace l8:=hd l8;replace z7:=hd z7;replace O6:=hd O6;replace w9:=hd w9;replace Q7:=hd Q7;refine q1.out _ _ ?_;refine zW tyR ?_;exact⟨z.lr.length-(i+1),by omega,i+1,X5,F5,r5,found5,dl5,rfl,C0,z7,hX5,O6,w9,Q7,zL⟩
  have Q7:LpZ z items given f0 found (oF z items given w (i+1)):=Lp.skip hL.out q5;replace Q7:=hd Q7;cases w with
  |some n=>
   have M1:i≠n:=λh=>q5 h;have cw:((i:Int)==wI (some n))=false:=zB5 (by show(i:Int)≠(n:Int);omega);have cw1:((i:Int) != wI (some n))=true:=by rw[bne,cw];rfl
   have cw2:(0:Int)≤wI (some n):=by show(0:Int)≤(n:Int);omega
   replace q5:=hd q5;replace M1:=hd M1;refine zG (qA tyR fJ) λK5 P1=>?_;refine P1.out _ _ ?_;refine zW tyR ?_;refine q2.out _ _ ?_;refine zW tyR ?_;exact⟨z.lr.length-(i+1),by omega,i+1,X4,F,r,found,dl,rfl,C0,R7,U5,F2,hD4,Q7,zL⟩
  |none=>
   have M1:i∉given:=λh=>q5 h;have cw:((i:Int)==wI none)=false:=zB5 (by show(i:Int)≠-1;omega);have cw1:((i:Int) != wI none)=true:=by rw[bne,cw];rfl
   have cw2:¬(0:Int)≤wI none:=by show¬(0:Int)≤-1;decide
   rw[decide_eq_false M1]at I3;replace q5:=hd q5;replace M1:=hd M1;refine zG (qA tyR fJ) λK5 P1=>?_;refine P1.out _ _ ?_;refine zW tyR ?_;refine q2.out _ _ ?_;refine zW tyR ?_;exact⟨z.lr.length-(i+1),by omega,i+1,X4,F,r,found,dl,rfl,C0,R7,U5,F2,hD4,Q7,zL⟩
 have hLe:=Lp.over hL.out (show z.lr.length≤i by omega);replace hLe:=hd hLe;refine zW tyR ?_;refine k2.out _ _ ?_;exact hK.out _ _ X F r found dl hF.out hX0.out hW.out hD.out hLe.out B0
def VM(z:Sg)(items:List Fx)(given:List Nat)(w:Option Nat)(I T:List Fx):Prop:=match w with
 |none=>oF z items given none 0 I T
 |some n=>(∃rest,Ql z I T items rest (n::given))∨oF z items given (some n) 0 I T
def Ad{z:Sg}(D0:lA z.ld z.lr z.v)(N6:z.c≤3)(I4:z.limit≤100)(B5:Ip z.v z.lr (kF z.ld z.v) z.c){left:Nat}(hih:∀l,left=l+1->sQ z l):sQ z left:=by
 intro X H iv nv mv F items given found r hs hk hI Z4 M7 X3;have C4:items.length≤3:=by omega
 replace hI:=hd hI;replace Z4:=hd Z4;replace M7:=hd M7;replace X3:=hd X3;replace B5:=hd B5;replace hih:=hd hih;refine Con.of rfl λlg=>?_;have hs:=hs.lg lg;have hk:Kp z (SrC z.S r) ⟨H.t,H.nx,lg⟩ iv nv mv items given:=hk;have e0:H.nx=(⟨H.t,H.nx,lg⟩:Hp).nx:=rfl;rw[e0];clear e0;generalize(⟨H.t,H.nx,lg⟩:Hp)=H at hs hk ⊢
 refine C1.body (E:=E2) (nt:=228) (res:=[]) Tryz.func102 rfl rfl rfl rfl rfl λtm z0=>?_;have h0:=z0 0 _ rfl;have h1:=z0 1 _ rfl;have h2:=z0 2 _ rfl;have h3:=z0 3 _ rfl;have h4:=z0 4 _ rfl;have h5:=z0 5 _ rfl;have h6:=z0 6 _ rfl;clear z0;have o7:=hk.now;have i3:=o7.it.lt;have n3:=o7.nw.lt;have m3:=o7.gv.lt;replace o7:=hd o7;refine zG tyR λK1 Q6=>?_;refine Q6.out _ _ ?_;refine R1.gen (λA1 H1=>Gr H H1∧H1.nx=H.nx+4∧H1.get H.nx=some (.arr [iv] 30 0 0)∧H1.get (H.nx+1)=some (.arr [nv] 27 0 0)∧H1.get (H.nx+2)=some (.arr [mv] 194 0 0)∧H1.get (H.nx+3)=some (.arr [.i .i64 (left:Int)] 3 0 0)∧slot A1.tm 4=.one ((.o (.ptr z.C1 0 0 1)))∧slot A1.tm 5=.one ((.o (.ptr z.C2 0 0 1)))∧slot A1.tm 6=.one ((.o (.ptr z.C3 0 0 1)))∧slot A1.tm 7=.one ((.o (.ptr H.nx 0 0 1)))∧slot A1.tm 8=.one ((.o (.ptr (H.nx+1) 0 0 1)))∧slot A1.tm 9=.one ((.o (.ptr (H.nx+2) 0 0 1)))∧slot A1.tm 10=.one ((.o (.ptr (H.nx+3) 0 0 1)))∧A1.nt=228∧A1.dfr=[])
  ⟨(((Fr.refl _).new _).new _).new _ |>.new _,rfl,by rw[aS (by show H.nx<H.nx+1+1+1;omega),aS (by show H.nx<H.nx+1+1;omega),aS (by show H.nx<H.nx+1;omega)];exact aB rfl,
    by rw[aS (by show H.nx+1<H.nx+1+1+1;omega),aS (by show H.nx+1<H.nx+1+1;omega)];exact aB rfl,by rw[aS (by show H.nx+2<H.nx+1+1+1;omega)];exact aB rfl,aB rfl,zL⟩ ?_
 clear h0 h1 h2 h3 h4 h5 h6 tm i3 n3 m3 Q6 K1;rintro A H1 ⟨g1,n1,r0',r1',r2',r3',t4,t5,t6,t7,t8,t9,t10,A0,B0⟩;obtain⟨b,hb⟩:∃b,b=H.nx:=⟨_,rfl⟩
 rw[<-hb]at n1 r0' r1' r2' r3' t7 t8 t9 t10;have hB:Bs z H1 b iv nv mv left items given r:=⟨hk.gr g1,r0',r1',r2',r3',by omega,λj hj hh=>by
  rcases hh with hh|hh
  ·have:=hs.own.1;omega
  have:=hs.rlt j hh;omega,by have:=hs.clo.n.2;omega,hI.out,Z4.out,M7.out,X3.out⟩
 have D6:Wk z X H1 r H1 F found r:=⟨Nx.refl _,hs.gr g1,λk hk=>.inl hk⟩;have fin:Hd (∀(e:ak)(A:aa)(H3:Hp)(dl:List Nat)(X':Nat->Prop)(F':AC)(r':Option Nat)(found':List (List Fx)),(e=.normal∨e=.ret)->A.dfr=dl->Fr (SrC z.S r) H1 H3->(∀k,X k->X' k)->Wk z X' H1 r H3 F' found' r'->DfM X' H1 H3 dl->lS z.v z.lr (kF z.ld z.v) z.c z.limit items given found found' ->
   ∃w H4,aC E2 [] (e,A,H3)=.ok [(w,H4)]∧Fr (SrC z.S r) H H4∧∀lg':List Nat,w=.tup []∧FrQ z X H.nx r (lS z.v z.lr (kF z.ld z.v) z.c z.limit items given found) ⟨H4.t,H4.nx,lg'⟩):=λe A H3 dl X' F' r' found' he h1 h2 h3 h4 h5 h6=>by
  obtain⟨H4,c1,c2,c3⟩:=h5.close
  have hNb:=hB.nb;have hbn:=hB.n;have hsn:z.S<H.nx:=hs.own.1;have s1:SrS z X' H4 F' found' r':=h4.st.fr c2 λk hk=>⟨(h5.2 k hk).1,by have:=(h5.2 k hk).2.1;omega,by have:=(h5.2 k hk).2.1;omega⟩;have s2:SrS z X H4 F' found' r':=s1.wide hs.xs (λk hk=>by have:=hs.xn k hk;have:=h2.nx;have:=c2.nx;omega) λk hk=>.inl (h3 k hk);refine⟨_,H4,Cq he (by rw[h1];exact c1),((Fr.none g1).then h2 λk hk=>.inr hk).then c2 λk hk=>.inl (by have:=(h5.2 k hk).2.1;omega),λlg'=>⟨rfl,F',r',found',s2.lg lg',λk hk=>(h4.rr k hk).imp id λh=>by omega,h6⟩⟩
 have hle:=hs.le;have u7:=hs.ok;have flen:=D6.st.fnd.len;have flt:=D6.st.fnd.lt;obtain⟨o6,S5⟩:=D6.st.own
 have c1:z.C1<H1.nx:=by have:=D6.st.clo.n;omega
 have G1:=D6.st.clo.g1;replace hB:=hd hB;replace D6:=hd D6;replace hb:=hd hb;replace u7:=hd u7;replace hs:=hd hs;replace hk:=hd hk;replace g1:=hd g1;clear r0' r1' r2' r3';replace n1:=hd n1;refine R1.scope ?_;repeat refine R1.aF ?_
 refine R1.rA (λB H=>H=H1∧slot B.tm 4=.one ((.o (.ptr z.C1 0 0 1)))∧slot B.tm 5=.one ((.o (.ptr z.C2 0 0 1)))∧slot B.tm 6=.one ((.o (.ptr z.C3 0 0 1)))∧slot B.tm 7=.one ((.o (.ptr b 0 0 1)))∧slot B.tm 8=.one ((.o (.ptr (b+1) 0 0 1)))∧slot B.tm 9=.one ((.o (.ptr (b+2) 0 0 1)))∧slot B.tm 10=.one ((.o (.ptr (b+3) 0 0 1)))∧slot B.tm 38=.one (.b (decide (z.limit≠0∧z.limit<found.length)))∧B.nt=228∧B.dfr=[]) (λK6 m1 m2 m3=>?_) ?_
 ·by_cases l0:z.limit=0
  ·have c0:¬(0:Int)<(z.limit:Int):=by omega
   have F1:decide (z.limit≠0∧z.limit<found.length)=false:=decide_eq_false λh=>h.1 l0;rw[F1]at m1;clear F1;replace l0:=hd l0;refine zG tyR λK5 P1=>?_;refine P1.out _ _ ?_;exact m1.out _ _ ⟨rfl,zL⟩
  have c0:(0:Int)<(z.limit:Int):=by omega
  by_cases l1:z.limit<found.length
  ·have c2:(z.limit:Int)<(found.length:Int):=by omega
   have F1:decide (z.limit≠0∧z.limit<found.length)=true:=decide_eq_true ⟨l0,l1⟩;rw[F1]at m1;clear F1;replace l0:=hd l0;replace l1:=hd l1;refine zG tyR λK5 P1=>?_;refine P1.out _ _ ?_;exact m1.out _ _ ⟨rfl,zL⟩
  have c2:¬(z.limit:Int)<(found.length:Int):=by omega
  have F1:decide (z.limit≠0∧z.limit<found.length)=false:=decide_eq_false λh=>l1 h.2;rw[F1]at m1;clear F1;replace l0:=hd l0;replace l1:=hd l1;refine zG tyR λK5 P1=>?_;refine P1.out _ _ ?_;exact m1.out _ _ ⟨rfl,zL⟩
 clear t4 t5 t6 t7 t8 t9 t10 A0 B0 A;rintro A H9 ⟨rfl,t4,t5,t6,t7,t8,t9,t10,t38,A0,B0⟩;by_cases V5:z.limit≠0∧z.limit<found.length
 ·rw[decide_eq_true V5]at t38;have hL:=Lp.full (items:=items) (given:=given) (due:=λ_ _=>False) u7.out hle V5.1 V5.2;replace V5:=hd V5;replace hL:=hd hL;refine qX (qA tyR t38) ?_;refine zW tyR ?_;exact fin.out _ _ _ [] X F r found (.inr rfl) qe (Fr.refl _) (λ_ h=>h) D6.out DfM.nil hL.out
 rw[decide_eq_false V5]at t38;have X_:z.limit=0∨found.length≤z.limit:=Classical.byContradiction λh=>V5 ⟨λe=>h (.inl e),by omega⟩;replace V5:=hd V5;replace X_:=hd X_;have p1:=D6.out.st.dat.now.rl.len;have p3:=D6.out.st.dat.now.rl.lt;refine qX (qA tyR t38) ?_;refine R1.bA ?_;refine zW tyR ?_;refine R1.BA ?_;refine zW tyR ?_;refine R1.seq (srch (rn:=none) rfl D0 hB.out D6.out zL λA2 H2 w g2 hw L3=>?_);show R1 E2 none _ A2 H2 _;clear t4 t5 t6 t7 t8 t9 t10 t38 A0 B0 A flen flt o6 S5 c1 G1 p1 p3;obtain⟨t4,t5,t6,t7,t8,t9,t10,t11,A0,B0⟩:=L3
 have Y2:=Lp.start (v:=z.v) (lr:=z.lr) (K:=kF z.ld z.v) (items:=items) (given:=given) u7.out hle;have hF2:Fr (SrC z.S r) H9 H2:=Fr.none g2;have y7:=D6.out.gr g2;replace Y2:=hd Y2;replace hF2:=hd hF2;refine R1.rA (λB H3=>∃(F':AC)(r':Option Nat)(found':List (List Fx)),Hd (Fr (SrC z.S r) H9 H3)∧Hd (Wk z X H9 r H3 F' found' r')∧Hd (LpZ z items given found found' λI T=>items.length+given.length+1≤z.c∧VM z items given w I T)∧slot B.tm 4=.one ((.o (.ptr z.C1 0 0 1)))∧slot B.tm 5=.one ((.o (.ptr z.C2 0 0 1)))∧slot B.tm 6=.one ((.o (.ptr z.C3 0 0 1)))∧slot B.tm 7=.one ((.o (.ptr b 0 0 1)))∧slot B.tm 8=.one ((.o (.ptr (b+1) 0 0 1)))∧slot B.tm 9=.one ((.o (.ptr (b+2) 0 0 1)))∧slot B.tm 10=.one ((.o (.ptr (b+3) 0 0 1)))∧slot B.tm 11=.one ((.i .i64 (wI w)))∧B.nt=228∧B.dfr=[]) (λK6 m1 m2 m3=>?_) ?_
 ·cases w with
  |some n=>
   have cw:¬wI (some n)<0:=by show¬(n:Int)<0;omega
   obtain⟨hg,rl,P3,Z0⟩:=hw
   have hL:=Lp.PJ D0.rp Y2.out P3 hg Z0;replace hL:Hd (LpZ z items given found found λI T=>items.length+given.length+1≤z.c∧VM z items given (some n) I T):=hL;replace hg:=hd hg;replace P3:=hd P3;replace Z0:=hd Z0;replace y7:=hd y7;refine zW tyR ?_;exact m1.out _ _ ⟨F,r,found,hF2,y7,hL,zL⟩
  |none=>
   have cw:wI none<0:=by show(-1:Int)<0;decide
   have R2:=hB.out.now y7.nx;obtain⟨x0,x1,x2,x3,⟨q0,q1⟩,q2,q3⟩:=hB.out.box y7.nx
   have i3:=R2.it.lt;have v3:=R2.nw.lt;have c1:z.C1<H2.nx:=by have:=y7.st.clo.n;omega
   have G1:=y7.st.clo.g1;replace R2:=hd R2;replace y7:=hd y7;replace hw:=hd hw;refine zW tyR ?_;refine zG (qA tyR Vs) λK5 P1=>?_;have L3:=y7.out.st;refine WE.con (Ur D0 H2 z.S z.N z.pc z.pr z.la z.vv F iv nv z.lc z.c z.limit found r items L3.own L3.dat L3.xs L3.xn L3.fnd R2.out.it R2.out.nw hI.out C4 N6 I4 u7.out X_.out) λw' H3 f3⟨Y3,hq⟩=>?_;subst Y3;obtain⟨F3,r3,found3,hW3,hP3⟩:=y7.out.call f3 (L3.took f3 hq λf hf=>⟨hf.ok,hf.le⟩)
   have hL:=Lp.right D0.rp B5.out hw.out hP3;have Y7:=y7.out.frc hF2.out f3;replace hL:Hd (LpZ z items given found found3 λI T=>items.length+given.length+1≤z.c∧VM z items given none I T):=hL;clear hq L3 hP3;replace hW3:=hd hW3;replace Y7:=hd Y7;replace f3:=hd f3;refine zS tyR ?_;refine P1.out _ _ ?_;exact m1.out _ _ ⟨F3,r3,found3,Y7,hW3,hL,zL⟩
 clear t4 t5 t6 t7 t8 t9 t10 t11 A0 B0 A2 Y2 hF2 y7;rintro A H3 ⟨F3,r3,found3,Y7,hW3,hL3,t4,t5,t6,t7,t8,t9,t10,t11,A0,B0⟩;obtain⟨x0,x1,x2,x3,⟨q0,q1⟩,q2,q3⟩:=hB.out.box hW3.out.nx
 cases left with
 |zero=>
  have cl:(((0:Nat):Int)==0)=true:=rfl;have hL:=Lp.ZP hL3.out (by have:=X3.out;omega);replace hL:=hd hL;refine zW tyR ?_;exact fin.out _ _ _ [] X F3 r3 found3 (.inr rfl) qe Y7.out (λ_ h=>h) hW3.out DfM.nil hL.out
 |succ l=>
  have cl:(((l+1:Nat):Int)==0)=false:=zB5 (by omega);have T3:=hih.out l rfl;have hL4:LpZ z items given found found3 (VM z items given w):=Lp.Zp hL3.out;replace hL4:=hd hL4;refine R1.rA (λB H=>H=H3∧slot B.tm 4=.one ((.o (.ptr z.C1 0 0 1)))∧slot B.tm 5=.one ((.o (.ptr z.C2 0 0 1)))∧slot B.tm 6=.one ((.o (.ptr z.C3 0 0 1)))∧slot B.tm 7=.one ((.o (.ptr b 0 0 1)))∧slot B.tm 8=.one ((.o (.ptr (b+1) 0 0 1)))∧slot B.tm 9=.one ((.o (.ptr (b+2) 0 0 1)))∧slot B.tm 10=.one ((.o (.ptr (b+3) 0 0 1)))∧slot B.tm 11=.one ((.i .i64 (wI w)))∧B.nt=228∧B.dfr=[]) (λK6 m1 m2 m3=>?_) ?_
  ·refine zW tyR ?_;exact m1.out _ _ ⟨rfl,zL⟩
  clear t4 t5 t6 t7 t8 t9 t10 t11 A0 B0 A;rintro A H8 ⟨rfl,t4,t5,t6,t7,t8,t9,t10,t11,A0,B0⟩;refine R1.rA (λB H4=>∃(F':AC)(r':Option Nat)(found':List (List Fx)),Hd (Fr (SrC z.S r) H9 H4)∧Hd (Wk z X H9 r H4 F' found' r')∧Hd (LpZ z items given found found' (oF z items given w 0))∧slot B.tm 4=.one ((.o (.ptr z.C1 0 0 1)))∧slot B.tm 5=.one ((.o (.ptr z.C2 0 0 1)))∧slot B.tm 6=.one ((.o (.ptr z.C3 0 0 1)))∧slot B.tm 7=.one ((.o (.ptr b 0 0 1)))∧slot B.tm 8=.one ((.o (.ptr (b+1) 0 0 1)))∧slot B.tm 9=.one ((.o (.ptr (b+2) 0 0 1)))∧slot B.tm 10=.one ((.o (.ptr (b+3) 0 0 1)))∧slot B.tm 11=.one ((.i .i64 (wI w)))∧B.nt=228∧B.dfr=[]) (λK6 m1 m2 m3=>?_) ?_
  ·cases w with
   |none=>
    have cw:¬(0:Int)≤wI none:=by show¬(0:Int)≤-1;decide
    refine zW tyR ?_;exact m1.out _ _ ⟨F3,r3,found3,Y7,hW3,hL4,zL⟩
   |some n=>
    have cw:(0:Int)≤wI (some n):=by show(0:Int)≤(n:Int);omega
    obtain⟨hg,rl,P3,Z0⟩:=hw
    have hnl:=(List.getElem?_eq_some_iff.1 P3).1;replace hg:=hd hg;replace P3:=hd P3;replace Z0:=hd Z0;refine zG tyR λK5 P1=>?_;refine P1.out _ _ ?_;refine R1.jw (λA5=>slot A5.tm 4=.one ((.o (.ptr z.C1 0 0 1)))∧slot A5.tm 5=.one ((.o (.ptr z.C2 0 0 1)))∧slot A5.tm 6=.one ((.o (.ptr z.C3 0 0 1)))∧slot A5.tm 7=.one ((.o (.ptr b 0 0 1)))∧slot A5.tm 8=.one ((.o (.ptr (b+1) 0 0 1)))∧slot A5.tm 9=.one ((.o (.ptr (b+2) 0 0 1)))∧slot A5.tm 10=.one ((.o (.ptr (b+3) 0 0 1)))∧slot A5.tm 11=.one ((.i .i64 (wI (some n))))∧slot A5.tm 79=.one (.b true)∧A5.nt=228∧A5.dfr=[]) zL ?_;clear t4 t5 t6 t7 t8 t9 t10 t11 A0 B0 A P1 K5;rintro A ⟨t4,t5,t6,t7,t8,t9,t10,t11,t79,A0,B0⟩;refine qX (qA tyR t79) ?_;refine YR rfl N6 hB.out hW3.out T3 hg.out hnl hL4.out ⟨t4,t5,t6,t7,t8,t9,t10,t11,A0,B0⟩ λA2 H4 F4 r4 found4 f4 F2 Q7 hs4=>?_;obtain⟨t4,t5,t6,t7,t8,t9,t10,t11,A0,B0⟩:=hs4
    have R7:=hW3.out.frc Y7.out f4;exact m1.out _ _ ⟨F4,r4,found4,R7,F2,Q7,t4,t5,t6,t7,t8,t9,t10,t11,A0,B0⟩
  clear t4 t5 t6 t7 t8 t9 t10 t11 A0 B0 A hL3 hL4 x0 x1 x2 x3 q0 q1 q2 q3;rintro A H4 ⟨F4,r4,found4,R7,F2,Q7,t4,t5,t6,t7,t8,t9,t10,t11,A0,B0⟩;have p1:=F2.out.st.dat.now.rl.len;have p3:=F2.out.st.dat.now.rl.lt;have c1:z.C1<H4.nx:=by have:=F2.out.st.clo.n;omega
  have G1:=F2.out.st.clo.g1;obtain⟨o6,S5⟩:=F2.out.st.own
  refine zW tyR ?_;exact XY rfl D0 N6 hB.out R7.out F2.out DfM.nil T3 Q7.out zL λA2 H5 X5 F5 r5 found5 dl5 z7 l8 O6 w9 hP5 hdf5=>fin.out _ A2 H5 dl5 X5 F5 r5 found5 (.inl rfl) hdf5 z7 l8 O6 w9 hP5
def Hh{z:Sg}(D0:lA z.ld z.lr z.v)(N6:z.c≤3)(I4:z.limit≤100)(B5:Ip z.v z.lr (kF z.ld z.v) z.c):∀left,sQ z left
 |0=>Ad D0 N6 I4 B5 λl h=>by omega
 |l+1=>Ad D0 N6 I4 B5 λk h=>by
  have:k=l:=by omega
  subst this;exact Hh D0 N6 I4 B5 k
def SrD.up{S N N':Nat}{H:Hp}{pc pr la vv:AC}{lc:List Cl}{lr:List Rl}{ld:List Lad}{v:List Int}(h:SrD S N H pc pr la vv lc lr ld v)(hn:N≤N')(hx:N'≤H.nx):SrD S N' H pc pr la vv lc lr ld v:=
 ⟨hx,λH' h1 h2=>h.2 H' h1 λi hi hh=>h2 i hi λhk=>hh (hk.imp id (zA2 hn))⟩
def Sol.way{v:List Int}{lr:List Rl}{K:Int->Int->Int}{c limit:Nat}{found found':List (List Fx)}(h:lS v lr K c limit [] [] found found'){f:List Fx}(hf:Sol v lr K c f):Got limit found' f:=by
 obtain⟨I,T,h1,h2,h3,h4,h5⟩:=hf
 exact(h.go I T I f ⟨h1,h2,h3,List.Perm.refl _,List.nodup_nil,λ_ h=>absurd h List.not_mem_nil⟩ h5 h4).resolve_right id
def ZS(n0 S:Nat)(pc pr la vv:AC)(ld:List Lad)(lr:List Rl)(v:List Int)(c limit:Nat)(H':Hp):Prop:=
 ∃F' r' found',SrR H' S pc pr la vv F' c limit∧Fnd (λk=>k=S) H' F' found' r'∧(∀k,r'=some k->n0≤k)∧FOk v lr (kF ld v) c limit found'∧found'.length≤limit+1∧∀f,Sol v lr (kF ld v) c f->Got limit found' f
def Vv{ld:List Lad}{lr:List Rl}{v:List Int}(D0:lA ld lr v){c limit:Nat}(N6:c≤3)(I4:limit≤100)(B5:Ip v lr (kF ld v) c)(H:Hp)(S:Nat)(pc pr la vv:AC)(lc:List Cl)
  (hS:SrR H S pc pr la vv (.o .nilS) c limit) (hD:SrD S H.nx H pc pr la vv lc lr ld v):
  Con E2 51 [.one (.o (.ptr S 0 0 7))] H (λk=>k=S) λq H'=>q=.tup []∧ZS H.nx S pc pr la vv ld lr v c limit H':=by
 replace B5:=hd B5;refine Con.of rfl λlg=>?_;have hS:SrR ⟨H.t,H.nx,lg⟩ S pc pr la vv (.o .nilS) c limit:=hS;have hD:SrD S (⟨H.t,H.nx,lg⟩:Hp).nx ⟨H.t,H.nx,lg⟩ pc pr la vv lc lr ld v:=hD;have e0:H.nx=(⟨H.t,H.nx,lg⟩:Hp).nx:=rfl;rw[e0];clear e0;generalize(⟨H.t,H.nx,lg⟩:Hp)=H at hS hD ⊢
 refine C1.body (E:=E2) (nt:=16) (res:=[]) Tryz.func51 rfl rfl rfl rfl rfl λtm z0=>?_;have h0:=z0 0 _ rfl;clear z0;replace hD:=hd hD;obtain⟨o6,S5⟩:=id hS
 replace hS:=hd hS;refine zW (zDd tyR Yl XO) ?_;refine R1.gen (λA3 H3=>Gr H H3∧H3.nx=H.nx+3∧H3.get H.nx=some (.arr [.o (.ptr S 0 0 7)] 127 0 0)∧H3.get (H.nx+1)=some (.arr [.o (.clo 102 [(H.nx,0,0,1),(H.nx+1,0,0,1),(H.nx+1+1,0,0,1)])] 193 0 0) ∧
   H3.get (H.nx+1+1)=some (.arr [.o (.clo 100 [(H.nx+1,0,0,1),(H.nx,0,0,1)])] 196 0 0)∧slot A3.tm 1=.one ((.o (.ptr H.nx 0 0 1)))∧slot A3.tm 2=.one ((.o (.ptr (H.nx+1) 0 0 1)))∧slot A3.tm 3=.one ((.o (.ptr (H.nx+1+1) 0 0 1)))∧A3.nt=16∧A3.dfr=[])
  ⟨(((((Fr.refl _).new _).new _).new _).mod _ (.inl (by omega))).mod _ (.inl (by omega)),rfl,
    by rw[au (by omega),au (by omega),aS (by show H.nx<H.nx+1+1;omega),aS (by show H.nx<H.nx+1;omega)];exact aB rfl,an rfl,by rw[au (by omega)];exact an rfl,zL⟩ ?_
 clear h0 tm S5;rintro A3 H3 ⟨g3,n3,G1,G2,G3,t1,t2,t3,A0,B0⟩;have S':=hS.out.gr g3;have hD3:SrD S (H.nx+3) H3 pc pr la vv lc lr ld v:=(hD.out.gr g3).up (by omega) (by omega);obtain⟨z,hz⟩:∃z:Sg,z=⟨S,H.nx+3,H.nx,H.nx+1,H.nx+1+1,pc,pr,la,vv,lc,ld,lr,v,c,limit⟩:=⟨_,rfl⟩
 have hs:SrS ⟨S,H.nx+3,H.nx,H.nx+1,H.nx+1+1,pc,pr,la,vv,lc,ld,lr,v,c,limit⟩ (λk=>k=S) H3 (.o .nilS) [] none:=
  ⟨S',hD3,Fnd.nil,rfl,λk(hk:k=S)=>by rw[hk];exact S'.1,λk hk=>by (cases hk),⟨⟨⟨by show H.nx<H.nx+3;omega,by show H.nx+1<H.nx+3;omega,by show H.nx+1+1<H.nx+3;omega⟩,by show H.nx+3≤H3.nx;omega⟩,⟨by show H.nx≠S;omega,by show H.nx+1≠S;omega,by show H.nx+1+1≠S;omega⟩,G1,G2,G3⟩,FOk.nil,Nat.zero_le _⟩
 have hk:Kp ⟨S,H.nx+3,H.nx,H.nx+1,H.nx+1+1,pc,pr,la,vv,lc,ld,lr,v,c,limit⟩ (SrC S none) H3 (.o .nilS) vv (.o .nilM) [] []:=λH' n g=>⟨SlF.nil,(hD3.2 H' n λi hi hx=>g i hi λhh=>hh.elim (λe=>hx (.inl e)) λe=>by cases e).vi,.inl ⟨rfl,rfl⟩⟩;have hfc:=Hh (z:=⟨S,H.nx+3,H.nx,H.nx+1,H.nx+1+1,pc,pr,la,vv,lc,ld,lr,v,c,limit⟩) D0 N6 I4 B5.out c (λk=>k=S) H3 (.o .nilS) vv (.o .nilM) (.o .nilS) [] [] [] none hs hk ⟨λ_ h=>absurd h List.not_mem_nil,List.Pairwise.nil⟩ List.nodup_nil (λ_ h=>absurd h List.not_mem_nil) (Nat.zero_add c);obtain⟨hS4,hS5⟩:=S'
 have q1:H.nx<H3.nx:=by omega
 have q2:H.nx+1<H3.nx:=by omega
 have lv:=hD3.now.vi.lt;clear hz z;replace hfc:=hd hfc;replace hs:=hd hs;replace hk:=hd hk;replace hD3:=hd hD3;replace n3:=hd n3;refine zG (qA tyR CO) λK1 Q6=>?_;refine WE.con hfc.out λw' H4 f4⟨hw,hq⟩=>?_;subst hw;have hf:Fr (λk=>k=S) H H4:=(Fr.none g3).then f4 λk hk=>hk.elim .inr λe=>by cases e
 have hQ:∀lg':List Nat,ZS H.nx S pc pr la vv ld lr v c limit ⟨H4.t,H4.nx,lg'⟩:=λlg'=>by
  obtain⟨F',r',found',s1,s2,s3⟩:=hq.lg lg'
  exact⟨F',r',found',s1.own,s1.fnd,λk hk=>(s2 k hk).elim (λh=>by cases h) λh=>by have:=n3.out;omega,s1.ok,s1.le,λf hf=>Sol.way s3 hf⟩
 clear hq f4;replace hf:=hd hf;replace hQ:=hd hQ;refine zS tyR ?_;refine Q6.out _ _ ?_;exact⟨_,_,bX (.inl rfl) qe,hf.out,λlg'=>⟨rfl,hQ.out lg'⟩⟩
def uB{s:List UInt8}{u:AC}:oO [.o (.str s),u]=(AV.one u).ids:=by simp[oO,AV.ids,AC.ids,AO.ids]
def py:FrR qh:=λY H H' c x⟨u,h1,h2⟩hf hy=>⟨u,h1,SlC.fr h2 hf λk hk=>hy k (by rw[h1,uB];exact hk)⟩
def pH:LtR qh:=λH c x⟨u,h1,h2⟩k hk=>by
 rw[h1,uB]at hk;exact h2.lt k hk
def AY{H:Hp}{u:AC}{us:List Pr}(h:SlP H u us)(Z0:us≠[]){k lo gen:Nat}{cells:List AC}{e:TypeId}(hk:H.get k=some (.arr cells e lo gen))(hc:∀i s f,cells[i]?=some (.o (.str s))->cells[i+1]?=some (.i .i64 f)->False):k∉(AV.one u).ids:=by
 rcases h.2 with⟨rfl,_⟩|⟨id,g,off,rfl,_,cs,hr,h1,h2⟩
 ·exactλh=>by cases h
 intro hm;rw[List.mem_singleton.1 hm]at hk;rw[hk]at hr;have W2:cs=cells:=by
  have W5:(if lo≤g∧g≤gen then some cells else none)=some cs:=hr;by_cases q:lo≤g∧g≤gen
  ·rw[zB0 q]at W5;exact(Option.some.inj W5).symm
  rw[zB1 q]at W5;cases W5
 subst W2;cases us with
 |nil=>exact Z0 rfl
 |cons x l=>
  have e2:(List.flatMap prC (x::l))=.o (.str x.1)::.i .i64 x.2::List.flatMap prC l:=rfl;rw[e2]at h2;refine hc off x.1 x.2 ?_ ?_
  ·have:=congrArg (λq=>q[0]?) h2;rw[List.length_cons]at this;simp only[List.getElem?_cons_zero]at this;rw[List.getElem?_take_of_lt (by omega),List.getElem?_drop,Nat.add_zero]at this;exact this
  have:=congrArg (λq=>q[1]?) h2;rw[List.length_cons]at this;simp only[List.getElem?_cons_succ,List.getElem?_cons_zero]at this;rw[List.getElem?_take_of_lt (by omega),List.getElem?_drop]at this;exact this
def ldC(ls:List Lad)(lc:List Cl):List Lad:=lc.map λy=>bS (some ls) y.2.2.1
def ur(ls:List Lad)(lc:List Cl):(ldC ls lc).length=lc.length:=List.length_map ..
def Wh{X:Nat->Prop}{H:Hp}{v:AC}{l:List Lad}{r:Option Nat}{e:TypeId}(h:kK qh 2 e X H v l r){u:AC}{us:List Pr}(hu:SlP H u us)(Z0:us≠[]):∀k∈(AV.one u).ids,some k≠r:=λk hk hr=>by
 obtain⟨css,a,b⟩:=h.own
 rcases a with⟨_,_,_,e'⟩|⟨id,lo,gen,e1,_,e2,_⟩
 ·rw[e']at hr;cases hr
 rw[e1]at hr;cases hr
 refine AY hu Z0 e2 (λi s f h1 h2=>?_) hk;have key:∀{css:List (List AC)}{l:List Lad},Al (λc x=>c.length=2∧qh H c x∧∀id∈oO c,¬X id∧some id≠r) css l->∀q∈css.flatMap id,∃o,q=.o o:=λ{css}=>by
  induction css with
  |nil=>intro l _ q hq;cases hq
  |cons c css ih=>
   intro l hl q hq;cases l with
   |nil=>exact hl.elim
   |cons y l=>
    rw[List.flatMap_cons]at hq;rcases List.mem_append.1 hq with hq|hq
    ·obtain⟨_,⟨w,hw,B3⟩,_⟩:=hl.1
     have I8:q∈[AC.o (.str y.1),w]:=by rw[<-hw];exact hq
     rcases List.mem_cons.1 I8 with I8|I8
     ·exact⟨_,I8⟩
     rw[List.mem_singleton.1 I8];rcases B3.2 with⟨h,_⟩|⟨_,_,_,h,_⟩<;>exact⟨_,h⟩
    exact ih hl.2 q hq
 obtain⟨o,ho⟩:=key b _ (List.mem_of_getElem? h2)
 cases ho
def SlC.Ln{H:Hp}{v:AC}{sz n:Nat}{c:List AC}(h:SlC H v sz n c)(s:List UInt8):v≠.o (.str s):=λe=>by
 rcases h.2 with⟨h,_⟩|⟨_,_,_,h,_⟩<;>(rw[e]at h;cases h)
def ZN{c:Code}(hc:atF Tryz.f24 [1,1,0,1]=some c){k a b w:AC}{ls:List Lad}{lc:List Cl}{lr:List Rl}{v:List Int}{B limit:Nat}{H H1:Hp}{A:aa}{K:ak->aa->Hp->Prop}{S:Nat}
  (hk:bF H k (some ls)) (hL:∀x∈ls,x.2.length≤1000000) (ha:dH H a lc) (hb:dA H b lr) (hw:SlI H w v) (hC:lc.length≤64) (L0:∀y∈lc,aH (bS (some ls) y.2.2.1).1 (bS (some ls) y.2.2.1).2=0)
  (hS:H.nx≤S) (g1:Gr H H1) (n1:S<H1.nx) (P0:H1.get S=some (.arr [a,b,.o .nilS,w,.i .i64 0,.i .i64 (limit:Int),.o .nilS] 129 0 0))
  (hs:slot A.tm 0=.one (k)∧slot A.tm 3=.one (.i .i64 (B:Int))∧slot A.tm 11=.one ((.o (.ptr S 0 0 7)))∧slot A.tm 22=.one (a)∧slot A.tm 23=.one (.i .i64 (lc.length:Int))∧slot A.tm 24=.one (.i .i64 (0:Int))∧A.nt=74∧A.dfr=[])
  (hK:∀(A2:aa)(H2:Hp)(la:AC)(r:Option Nat),Gr H H2->S<H2.nx->H2.get S=some (.arr [a,b,la,w,.i .i64 0,.i .i64 (limit:Int),.o .nilS] 129 0 0)->kK qh 2 51 (λk=>k=S) H2 la (ldC ls lc) r->slot A2.tm 3=.one (.i .i64 (B:Int))∧slot A2.tm 11=.one ((.o (.ptr S 0 0 7)))∧A2.nt=74∧A2.dfr=[]->K .normal A2 H2):R1 E2 none c A H1 K:=by
 cases hc
 obtain⟨t0,t3,t11,t22,t23,t24,A0,B0⟩:=hs
 replace hK:=hd hK;replace hb:=hd hb;replace hw:=hd hw;refine R1.og λK1 k1 k2 k3 k4=>?_;refine R1.loop (λm A H2=>∃(i:Nat)(la:AC)(r:Option Nat),m=lc.length-i∧i≤lc.length∧Gr H H2∧S<H2.nx∧H2.get S=some (.arr [a,b,la,w,.i .i64 0,.i .i64 (limit:Int),.o .nilS] 129 0 0)∧Hd (kK qh 2 51 (λk=>k=S) H2 la ((ldC ls lc).take i) r)∧Hd (∀q,r=some q->H.nx≤q)∧slot A.tm 0=.one (k)∧slot A.tm 3=.one (.i .i64 (B:Int))∧slot A.tm 11=.one ((.o (.ptr S 0 0 7)))∧slot A.tm 22=.one (a)∧slot A.tm 23=.one (.i .i64 (lc.length:Int))∧slot A.tm 24=.one (.i .i64 (i:Int))∧A.nt=74∧A.dfr=[]) ?_ lc.length
  ⟨0,.o .nilS,none,rfl,Nat.zero_le _,g1,n1,P0,kK.nil,(λq hq=>(by cases hq):∀q,(none:Option Nat)=some q->H.nx≤q),t0,t3,t11,t22,t23,t24,A0,B0⟩
 clear t0 t3 t11 t22 t23 t24 A0 B0 A g1 n1 P0 H1;rintro m A H2 ⟨i,la,r,rfl,C4,g2,n2,P0,ho,hr,t0,t3,t11,t22,t23,t24,A0,B0⟩;refine zW tyR ?_;refine zI tyR (λq9=>?_) (λq9=>?_)
 ·have C0:i<lc.length:=by omega
  have ex:lc[i]?=some lc[i]:=zB4 C0;have N0:lc.drop i=lc[i]::lc.drop (i+1):=List.drop_eq_getElem_cons C0;have I2:lc.take (i+1)=lc.take i++[lc[i]]:=List.take_succ_eq_append_getElem C0;have E0:lc[i]∈lc:=List.getElem_mem C0;generalize lc[i]=y at ex N0 I2 E0;have B3:=zC0 i (by omega);have ha2:=ha.gr g2;obtain⟨id,g,off,cells,hae,hid,B1,K0⟩:=ha2.open (by omega)
  obtain⟨p,q,hx⟩:=K0 i y ex
  have y1:=hx.all;have y2:=hx.le;have hcy:=L0 y E0;have hlp:=Yj H2 [.i .i64 y.1,.o (.str y.2.1),.o (.str y.2.2.1),p,q] y ⟨p,q,rfl,hx.of1,hx.of2⟩;have lp:ltV (.one p) H2.nx:=λj hj=>hlp j (by simp[oO,AV.ids,AC.ids,AO.ids]at hj ⊢;exact .inl hj);have lq:ltV (.one q) H2.nx:=λj hj=>hlp j (by simp[oO,AV.ids,AC.ids,AO.ids]at hj ⊢;exact .inr hj);rw[hae]at t22;clear K0 hx hlp I2 E0 N0;replace hae:=hd hae;replace ex:=hd ex;replace hcy:=hd hcy;refine zW tyR ?_;refine R1.fb λK2 q1 q2 q3 q4=>?_;refine zG (qA tyR (ixC C0)) λK5 P1=>?_;refine P1.out _ _ ?_;refine R1.gen (λA4 H4=>Gr H2 H4∧H2.nx<H4.nx∧H4.get H2.nx=some (.arr [.i .i64 y.1,.o (.str y.2.1),.o (.str y.2.2.1),p,q] 58 0 0)∧slot A4.tm 0=.one (k)∧slot A4.tm 3=.one (.i .i64 (B:Int))∧slot A4.tm 11=.one ((.o (.ptr S 0 0 7)))∧slot A4.tm 13=.one ((.o (.ptr H2.nx 0 0 5)))∧slot A4.tm 22=.one (a)∧slot A4.tm 23=.one (.i .i64 (lc.length:Int))∧slot A4.tm 24=.one (.i .i64 (i:Int))∧A4.nt=74∧A4.dfr=[])
   ⟨((Fr.refl _).new _).mod _ (.inl (zA1 _)),zA6 _,an rfl,by rw[hae.out];exact zL⟩ ?_
  clear t0 t3 t11 t22 t23 t24 A0 B0 A hid B1 y1 y2 P1 K5 lp lq;rintro A H4 ⟨g4,n4,rM,t0,t3,t11,t13,t22,t23,t24,A0,B0⟩;refine zG (qA tyR nM) λK5 P1=>?_;refine WE.con (lh H4 k (some ls) y.2.2.1 (hk.gr (g2.gr g4)) (λls' h=>by cases h;exact hL)) λw' H5 g5⟨c,Y3,hc,J1⟩=>?_;subst Y3;obtain⟨u,rfl,hu⟩:=hc.of
  clear J1 hc;have lu:=hu.lt;refine zS tyR ?_;refine P1.out _ _ ?_;refine R1.gen (λA5 H6=>Gr H5 H6∧H5.nx<H6.nx∧H6.get H5.nx=some (.arr [.o (.str (bS (some ls) y.2.2.1).1),u] 51 0 0)∧slot A5.tm 0=.one (k)∧slot A5.tm 3=.one (.i .i64 (B:Int))∧slot A5.tm 11=.one ((.o (.ptr S 0 0 7)))∧slot A5.tm 14=.one ((.o (.ptr H5.nx 0 0 2)))∧slot A5.tm 22=.one (a)∧slot A5.tm 23=.one (.i .i64 (lc.length:Int))∧slot A5.tm 24=.one (.i .i64 (i:Int))∧A5.nt=74∧A5.dfr=[])
   ⟨((Fr.refl _).new _).mod _ (.inl (zA1 _)),zA6 _,an rfl,zL⟩ ?_
  clear t0 t3 t11 t13 t22 t23 t24 A0 B0 A P1 K5 lu;rintro A H6 ⟨g6,n6,rL,t0,t3,t11,t14,t22,t23,t24,A0,B0⟩;have g26:Gr H2 H6:=g4.gr (g5.gr g6);have g06:Gr H H6:=g2.gr g26;have A6:SlP H6 u (bS (some ls) y.2.2.1).2:=hu.gr g6;have hrow6:=(g26.get _ n2 zB2).trans P0;have n26:=zA0 n2 g26.nx;have ho6:=ho.out.gr py pH g26;have Z0:(bS (some ls) y.2.2.1).2≠[]:=λe=>by
   obtain⟨x,l,h,_⟩:=eB hcy.out
   rw[e]at h;cases h
  have hlad:∀s,la≠.o (.str s):=λs=>by
   obtain⟨_,hc,_⟩:=ho6.slr
   exact SlC.Ln (H:=H6) hc s
  have hwd:∀s,w≠.o (.str s):=λs=>SlC.Ln (H:=H) hw.out s;have had:∀s,a≠.o (.str s):=λs=>by
   obtain⟨_,hc,_⟩:=ha
   exact SlC.Ln (H:=H) hc s
  have hbd:∀s,b≠.o (.str s):=λs=>by
   obtain⟨_,hc,_⟩:=hb.out
   exact SlC.Ln (H:=H) hc s
  have E_:S∉(AV.one u).ids:=AY A6 Z0 hrow6 λi s f h1 h2=>by
   match i,h1 with
   |0,h1=>exact had s (by simpa using h1)
   |1,h1=>exact hbd s (by simpa using h1)
   |2,h1=>exact hlad s (by simpa using h1)
   |3,h1=>exact hwd s (by simpa using h1)
   |4,h1=>simp at h1
   |5,h1=>simp at h1
   |6,h1=>simp at h1
   |n+7,h1=>simp at h1
  have hur:=Wh ho6 A6 Z0;have hll:((ldC ls lc).take i).length≤64:=by rw[List.length_take,ur];omega
  obtain⟨zz,hz,B2⟩:=JM
  obtain⟨a8,v9,H9,r9,Q2,V_,o9,H_⟩:=ho6.push py pH ez Jo hz B2 (by decide) (λj(hj:j=S)=>by rw[hj];exact n26) (c0:=[.o (.str (bS (some ls) y.2.2.1).1),u]) (x:=bS (some ls) y.2.2.1) rfl ⟨u,rfl,A6⟩ (λj hj=>by
   rw[uB]at hj;exact⟨λ(e:j=S)=>E_ (by rw[<-e];exact hj),hur j hj⟩) (by omega)
  have hrX:∀q,r=some q->q≠S:=λq hq=>(ho6.row q hq).1;have V':=(o9.get S n26 λhh=>hrX S hh rfl).trans hrow6;have n29:S<H9.nx:=zA0 n26 o9.nx;have g09:Gr H H9:=g06.then o9 λq hq=>.inl (hr.out q hq);have htk2:(ldC ls lc).take i++[bS (some ls) y.2.2.1]=(ldC ls lc).take (i+1):=by
   rw[List.take_add_one];congr 1
   unfold ldC;rw[List.getElem?_map,ex.out];rfl
  rw[htk2]at V_;have ho10:∀o,kK qh 2 51 (λk=>k=S) (H9.mod S o) v9 ((ldC ls lc).take (i+1)) (some r9):=λo=>V_.fr py pH ((Fr.refl (X:=λk=>k=S) H9).mod _ (.inr rfl)) λj hj=>.inl hj;have C7:∀q,some r9=some q->H.nx≤q:=λq hq=>by
   cases hq
   rcases H_ with h|h
   ·exact hr.out _ h
   have:=g06.nx;omega
  clear hz B2 zz o9 H_ V_ ho6 hlad hwd had hbd hur E_ Z0;replace ho10:=hd ho10;replace C7:=hd C7;replace htk2:=hd htk2;replace hrX:=hd hrX;replace g06:=hd g06;replace g09:=hd g09;replace hu:=hd hu;replace A6:=hd A6;replace hll:=hd hll;refine zG (qA tyR oz) λK5 P1=>?_;refine⟨a8,?_⟩
  refine zK tyR ?_;refine q1.out _ _ ?_;refine zW tyR ?_;exact⟨lc.length-(i+1),by omega,i+1,v9,some r9,rfl,C0,g09.out.mod _ (.inl hS),n29,an rfl,ho10.out _,C7,zL⟩
 have S1:i=lc.length:=by omega
 rw[S1,<-ur ls lc,List.take_length]at ho;clear S1;replace ho:=hd ho;refine zW tyR ?_;refine k2.out _ _ ?_;exact hK.out _ _ la r g2 n2 P0 ho.out zL
def YI:ao Tryz.prog 51=true:=by kernel_rfl
def Dm(v:List Int)(lr:List Rl)(K:Int->Int->Int)(B limit:Nat)(found:List (List Fx)):Prop:=
 (found=[]∧∀c≤B,∀f,¬Sol v lr K c f)∨∃c≤B,found≠[]∧FOk v lr K c limit found∧found.length≤limit+1∧(∀f,Sol v lr K c f->Got limit found f)∧∀c'<c,∀f,¬Sol v lr K c' f
def VB{limit:Nat}{f:List Fx}(h:Got limit [] f):False:=by
 unfold Got at h;by_cases c:limit=0
 ·rw[zB0 c]at h;obtain⟨_,h,_⟩:=h
  cases h
 rw[zB1 c]at h;rcases h with h|h
 ·cases h
 exact absurd h (Nat.not_lt_zero _)
def Fnd.Zt{X:Nat->Prop}{H:Hp}{F:AC}{r:Option Nat}(h:Fnd X H F [] r):F=.o .nilS:=by
 rcases h with⟨h,_⟩|⟨_,_,_,_,_,_,_,_,_,_,_,h,_⟩
 ·exact h
 exact absurd h (Nat.lt_irrefl 0)
def YH{c:Code}(hc:atF Tryz.f24 [1,1,1,0,1]=some c){a b la w:AC}{ld:List Lad}{lc:List Cl}{lr:List Rl}{v:List Int}(D0:lA ld lr v){B limit S N:Nat}(hB:B≤3)(I4:limit≤100){H:Hp}{A:aa}{K:ak->aa->Hp->Prop}
  (hD:SrD S N H a b la w lc lr ld v) (hSn:S<H.nx) (P0:H.get S=some (.arr [a,b,la,w,.i .i64 0,.i .i64 (limit:Int),.o .nilS] 129 0 0))
  (hs:slot A.tm 3=.one (.i .i64 (B:Int))∧slot A.tm 11=.one ((.o (.ptr S 0 0 7)))∧A.nt=74∧A.dfr=[])
  (hK:∀(A2:aa)(H2:Hp)(F':AC)(r':Option Nat)(found':List (List Fx))(cc:Nat),Fr (λk=>k=S) H H2->S<H2.nx->H2.get S=some (.arr [a,b,la,w,.i .i64 (cc:Int),.i .i64 (limit:Int),F'] 129 0 0)->Fnd (λk=>k=S) H2 F' found' r'->Dm v lr (kF ld v) B limit found'->slot A2.tm 11=.one ((.o (.ptr S 0 0 7)))∧A2.nt=74∧A2.dfr=[]->K .normal A2 H2):R1 E2 none c A H K:=by
 cases hc
 obtain⟨t3,t11,A0,B0⟩:=hs
 replace hK:=hd hK;replace hD:=hd hD;refine R1.og λK1 k1 k2 k3 k4=>?_;refine R1.loop (λm A H2=>∃cc:Nat,m=B+1-cc∧cc≤B+1∧Hd (Fr (λk=>k=S) H H2)∧S<H2.nx∧H2.get S=some (.arr [a,b,la,w,.i .i64 (cc:Int),.i .i64 (limit:Int),.o .nilS] 129 0 0)∧Hd (∀c'<cc,∀f,¬Sol v lr (kF ld v) c' f)∧slot A.tm 3=.one (.i .i64 (B:Int))∧slot A.tm 11=.one ((.o (.ptr S 0 0 7)))∧A.nt=74∧A.dfr=[]) ?_ (B+1)
  ⟨0,rfl,Nat.zero_le _,Fr.refl _,hSn,P0,(λc' h=>absurd h (Nat.not_lt_zero _):∀c'<0,∀f,¬Sol v lr (kF ld v) c' f),t3,t11,A0,B0⟩
 clear t3 t11 A0 B0 A hSn P0;rintro m A H2 ⟨cc,rfl,J1,hf,hSn,P0,L5,t3,t11,A0,B0⟩;have B3:=zC0 cc (by omega);by_cases hcb:cc≤B
 ·have hcb2:(cc:Int)≤(B:Int):=by omega
  refine zW tyR ?_;refine R1.fb λK2 q1 q2 q3 q4=>?_;have P_:SrD S H2.nx H2 a b la w lc lr ld v:=(hD.out.fr hf.out λk h=>.inl h).up (zA2 hD.out.1 hf.out.nx) (zA1 _);refine zG (qA tyR YI) λK5 P1=>?_;refine WE.con (Vv D0 (by omega) I4 (OV D0.rp L5.out) H2 S a b la w lc ⟨hSn,P0⟩ P_) λw' H3 f3⟨hw,hq⟩=>?_;subst hw;obtain⟨F',r',found',⟨S',hrow3⟩,Y7,z8,u7,hle,V9⟩:=hq
  have flen:=Y7.len;have flt:=Y7.lt;have l_:Fr (λk=>k=S) H H3:=hf.out.then f3 λk h=>.inr h;clear P_ z8;replace l_:=hd l_;replace f3:=hd f3;replace u7:=hd u7;replace V9:=hd V9;replace hle:=hd hle;by_cases hl:found'=[]
  ·subst hl;have hFe:=Y7.Zt;subst hFe;have R9:∀c'<cc+1,∀f,¬Sol v lr (kF ld v) c' f:=λc' p_ f hs=>by
    rcases Nat.lt_succ_iff_lt_or_eq.1 p_ with h|h
    ·exact L5.out c' h f hs
    subst h;exact VB (V9.out f hs)
   have hlen0:¬(0:Int)<((([]:List (List Fx)).length:Nat):Int):=by decide
   replace R9:=hd R9;replace Y7:=hd Y7;refine zK tyR ?_;refine q1.out _ _ ?_;refine zW tyR ?_;exact⟨B+1-(cc+1),by omega,cc+1,rfl,by omega,l_.out.mod _ (.inr rfl),S',an rfl,R9,zL⟩
  have hlen0:(0:Int)<(found'.length:Int):=by have:=List.length_pos_iff.2 hl;omega
  have hP:Dm v lr (kF ld v) B limit found':=.inr ⟨cc,hcb,hl,u7.out,hle.out,V9.out,L5.out⟩;replace hP:=hd hP;replace hl:=hd hl;replace Y7:=hd Y7;refine zK tyR ?_;refine q3.out _ _ _ (by decide) ?_;refine k2.out _ _ ?_;exact hK.out _ _ F' r' found' cc l_.out S' hrow3 Y7.out hP.out zL
 have hcb2:¬(cc:Int)≤(B:Int):=by omega
 have hP:Dm v lr (kF ld v) B limit []:=.inl ⟨rfl,λc' p_=>L5.out c' (by omega)⟩;replace hP:=hd hP;replace hcb:=hd hcb;refine zW tyR ?_;refine k2.out _ _ ?_;exact hK.out _ _ (.o .nilS) none [] cc hf.out hSn P0 Fnd.nil hP.out zL
def Gv:ao Tryz.prog 24=true:=by kernel_rfl
def BT(H:Hp)(k a b w:AC)(ls:List Lad)(lc:List Cl)(lr:List Rl)(v:List Int)(B limit:Nat)(hk:bF H k (some ls))(hL:∀x∈ls,x.2.length≤1000000)(ha:dH H a lc)(hb:dA H b lr)(hw:SlI H w v)(hC:lc.length≤64)
  (L0:∀y∈lc,aH (bS (some ls) y.2.2.1).1 (bS (some ls) y.2.2.1).2=0) (D0:lA (ldC ls lc) lr v) (hB:B≤3) (I4:limit≤100):
  Con E2 24 [.one k,.agg [a,b],.one w,.one (.i .i64 (B:Int)),.one (.i .i64 (limit:Int))] H (λ_=>False) λq H'=>∃F' r' found',q=.one F'∧Fnd (λ_=>False) H' F' found' r'∧Dm v lr (kF (ldC ls lc) v) B limit found':=by
 refine Con.of rfl λlg=>?_;have hk:bF ⟨H.t,H.nx,lg⟩ k (some ls):=bF.same (H:=H) rfl rfl hk;have ha:dH ⟨H.t,H.nx,lg⟩ a lc:=ha;have hb:dA ⟨H.t,H.nx,lg⟩ b lr:=hb;have hw:SlI ⟨H.t,H.nx,lg⟩ w v:=hw;generalize(⟨H.t,H.nx,lg⟩:Hp)=H at hk ha hb hw ⊢
 refine C1.body (E:=E2) (nt:=74) (res:=[.tmp 10]) Tryz.func24 rfl rfl rfl rfl rfl λtm z0=>?_;have h0:=z0 0 _ rfl;have h1:=z0 1 _ rfl;have h2:=z0 2 _ rfl;have h3:=z0 3 _ rfl;have h4:=z0 4 _ rfl;clear z0;have la:=ha.lt;have lb:=hb.lt;have lw:=hw.lt;replace L0:=hd L0;replace hL:=hd hL;refine zG tyR λK1 Q6=>?_;refine Q6.out _ _ ?_;refine R1.gen (λA1 H1=>Gr H H1∧H1.nx=H.nx+1∧H1.get H.nx=some (.arr [a,b] 26 0 0)∧slot A1.tm 0=.one (k)∧slot A1.tm 2=.one (w)∧slot A1.tm 3=.one (.i .i64 (B:Int))∧slot A1.tm 4=.one (.i .i64 (limit:Int))∧slot A1.tm 6=.one ((.o (.ptr H.nx 0 0 2)))∧slot A1.tm 10=.one ((.o .nilS))∧A1.nt=74∧A1.dfr=[]) ⟨(Fr.refl _).new _,rfl,aB rfl,zL⟩ ?_;clear h0 h1 h2 h3 h4 tm Q6 K1;rintro A H1 ⟨g1,n1,r1,t0,t2,t3,t4,t6,t10,A0,B0⟩;have n1':H.nx<H1.nx:=by omega
 replace n1:=hd n1;refine zG (zDg tyR Wp VV Oy OQ Oq) λK1 Q6=>?_;refine Q6.out _ _ ?_;refine R1.gen (λA1 H2=>Gr H H2∧Gr H1 H2∧H1.nx<H2.nx∧H2.get H1.nx=some (.arr [a,b,.o .nilS,w,.i .i64 0,.i .i64 (limit:Int),.o .nilS] 129 0 0)∧slot A1.tm 0=.one (k)∧slot A1.tm 3=.one (.i .i64 (B:Int))∧slot A1.tm 6=.one ((.o (.ptr H.nx 0 0 2)))∧slot A1.tm 11=.one ((.o (.ptr H1.nx 0 0 7)))∧A1.nt=74∧A1.dfr=[]) ⟨g1.new _,(Fr.refl _).new _,zA6 _,aB rfl,zL⟩ ?_;clear t0 t2 t3 t4 t6 t10 A0 B0 A Q6 K1;rintro A H2 ⟨g2,g12,n2,P0,t0,t3,t6,t11,A0,B0⟩;have r2:=(g12.get _ n1' zB2).trans r1;have n02:H.nx<H2.nx:=zA0 n1' g12.nx;have l1:=(ha.gr g2).len;have l2:=(ha.gr g2).lt;obtain⟨S,hSe⟩:∃S,S=H1.nx:=⟨_,rfl⟩
 rw[<-hSe]at n2 P0 t11;have hSn:H.nx≤S:=by omega
 replace hSe:=hd hSe;replace hk:=hd hk;replace ha:=hd ha;replace hb:=hd hb;replace hw:=hd hw;clear la lb lw r1 g12;refine zW tyR ?_;refine R1.seq (ZN rfl hk.out hL.out ha.out hb.out hw.out hC L0.out hSn g2 n2 P0 zL λA2 H3 la r g3 n3 hrow3 ho hs3=>?_);show R1 E2 none _ A2 H3 _;clear t0 t3 t6 t11 A0 B0 A l1 l2 P0 r2;obtain⟨t3,t11,A0,B0⟩:=hs3
 refine zG tyR λK1 Q6=>?_;refine Q6.out _ _ ?_;refine R1.gen (λA4 H4=>Gr H H4∧S<H4.nx∧H4.get S=some (.arr [a,b,la,w,.i .i64 0,.i .i64 (limit:Int),.o .nilS] 129 0 0)∧kK qh 2 51 (λk=>k=S) H4 la (ldC ls lc) r∧slot A4.tm 3=.one (.i .i64 (B:Int))∧slot A4.tm 11=.one ((.o (.ptr S 0 0 7)))∧A4.nt=74∧A4.dfr=[])
  ⟨g3.mod _ (.inl hSn),n3,an rfl,ho.fr py pH ((Fr.refl (X:=λk=>k=S) H3).mod _ (.inr rfl)) λj hj=>.inl hj,zL⟩ ?_
 clear t3 t11 A0 B0 A2 Q6 K1 ho hrow3;rintro A H4 ⟨g4,n4,hrow4,ho,t3,t11,A0,B0⟩;have hD:SrD S H4.nx H4 a b la w lc lr (ldC ls lc) v:=⟨zA1 _,λH' h1 h2=>by
  have hle:=g4.nx;have gf:Gr H ⟨H'.t,H'.nx,H.log⟩:=⟨zA2 hle h1,λi hi _=>(h2 i (by omega) λhx=>hx.elim (λe=>by omega) λe=>by omega).trans (g4.get i hi zB2),[],rfl,λ_ h=>by cases h⟩;have ff:Fr (SrX S H4.nx) H4 ⟨H'.t,H'.nx,H4.log⟩:=⟨h1,h2,[],rfl,λ_ h=>by cases h⟩;exact⟨(ha.out.gr gf:dH ⟨H'.t,H'.nx,H.log⟩ a lc),(hb.out.gr gf:dA ⟨H'.t,H'.nx,H.log⟩ b lr),((ho.fr py pH ff λj hj=>hj).slr:SlR qh 2 ⟨H'.t,H'.nx,H4.log⟩ la (ldC ls lc)),(hw.out.gr gf:SlI ⟨H'.t,H'.nx,H.log⟩ w v)⟩⟩
 refine R1.seq (YH rfl D0 hB I4 hD n4 hrow4 ⟨t3,t11,A0,B0⟩ λA5 H5 F' r' found' cc f5 n5 hrow5 z7 hP hs5=>?_);show R1 E2 none _ A5 H5 _;clear t3 t11 A0 B0 A hrow4 ho hD;obtain⟨t11,A0,B0⟩:=hs5
 have g5:Gr H H5:=g4.then f5 λj(hj:j=S)=>.inl (by omega);have O9:Fnd (λ_=>False) H5 F' found' r':=z7.wide λ_ h=>h.elim;replace O9:=hd O9;replace z7:=hd z7;replace hP:=hd hP;replace f5:=hd f5;refine zW tyR ?_;exact⟨_,_,aj F' (.inr rfl) qe qp,g5,λlg'=>⟨F',r',found',rfl,O9.out,hP.out⟩⟩
def Pj:ao Tryz.prog 7=true:=by kernel_rfl
def nG{ls:List Lad}{p:Pz}{v:List Int}(h:ep (some ls) p v=0)(L0:∀x∈ls,aH x.1 x.2=0):lA (ldC ls p.1) p.2 v:=by
 obtain⟨hC,hR,I1,hcp,_⟩:=nB h
 obtain⟨_,e,_,_,J9,B1⟩:=lV hcp
 cases e
 have hvr:=wP h;have hl:v.length=(ldC ls p.1).length:=by rw[ur];exact I1
 have hc:∀x∈ldC ls p.1,aH x.1 x.2=0:=λx hx=>by
  obtain⟨y,hy,rfl⟩:=List.mem_map.1 hx
  exact L0 _ (sD (uj J9 y hy))
 exact⟨hl,by have:p.1.length≤64:=hC;omega,by have:p.2.length≤64:=hR;omega,hc,hvr,ZC B1 (by have:p.1.length≤64:=hC;omega) I1 hvr λi to=>Wr hl hc hvr i to⟩
def vT(o:Option (List Lad))(p:Pz)(v:List Int)(B:Int)(f:List Fx)(e:Int):Prop:=
 (ep o p v≠0∧e=ep o p v∧f=[])∨(ep o p v=0∧(B<0∨3<B)∧e=8∧f=[])∨(ep o p v=0∧(0≤B∧B≤3)∧∃ls,o=some ls ∧
  ((e=4∧f=[]∧∀cc:Nat,(cc:Int)≤B->∀g,¬Sol v p.2 (kF (ldC ls p.1) v) cc g) ∨
   (e=0∧∃cc:Nat,(cc:Int)≤B∧Sol v p.2 (kF (ldC ls p.1) v) cc f∧(∀c'<cc,∀g,¬Sol v p.2 (kF (ldC ls p.1) v) c' g)∧∀g,Sol v p.2 (kF (ldC ls p.1) v) cc g->cT g f=false)))
def IS(H:Hp)(k a b w:AC)(o:Option (List Lad))(p:Pz)(v:List Int)(B:Int)(hk:bF H k o)(hL:∀ls,o=some ls->∀x∈ls,x.2.length≤1000000)(L0:∀ls,o=some ls->∀x∈ls,aH x.1 x.2=0)(ha:dH H a p.1)(hb:dA H b p.2)(hB:PzB p)(hw:SlI H w v)(hV:v.length≤4611686018427387904):
  Con E2 7 [.one k,.agg [a,b],.one w,.one (.i .i64 B)] H (λ_=>False) λr H'=>∃c e f,r=.tup [(false,[c]),(false,[.i .i64 e])]∧SlF H' c f∧vT o p v B f e:=by
 refine Con.of rfl λlg=>?_;have hk:bF ⟨H.t,H.nx,lg⟩ k o:=bF.same (H:=H) rfl rfl hk;have ha:dH ⟨H.t,H.nx,lg⟩ a p.1:=ha;have hb:dA ⟨H.t,H.nx,lg⟩ b p.2:=hb;have hw:SlI ⟨H.t,H.nx,lg⟩ w v:=hw;generalize(⟨H.t,H.nx,lg⟩:Hp)=H at hk ha hb hw ⊢
 refine C1.body (E:=E2) (nt:=36) (res:=[.tmp 8,.tmp 9]) Tryz.func7 rfl rfl rfl rfl rfl λtm z0=>?_;have h0:=z0 0 _ rfl;have h1:=z0 1 _ rfl;have h2:=z0 2 _ rfl;have h3:=z0 3 _ rfl;clear z0;have fin:Hd (∀(c:AC)(e:Int)(f:List Fx)(A:aa)(H3:Hp),slot A.tm 8=.one c->slot A.tm 9=.one (.i .i64 e)->A.dfr=[]->Gr H H3->SlF H3 c f->vT o p v B f e ->
   ∃w H4,aC E2 [.tmp 8,.tmp 9] (.ret,A,H3)=.ok [(w,H4)]∧Gr H H4∧∀lg:List Nat,∃c e f,w=.tup [(false,[c]),(false,[.i .i64 e])]∧SlF ⟨H4.t,H4.nx,lg⟩ c f∧vT o p v B f e):=λc e f A H3 h8 h9 hdd hg hs hr=>
  ⟨_,H3,aZ c (.i .i64 e) (.inr rfl) hdd h8 h9,hg,λlg=>⟨c,e,f,rfl,hs,hr⟩⟩
 refine zG tyR λK hK=>?_;refine hK.out _ _ ?_;refine R1.gen (λA1 H1=>Gr H H1∧H.nx<H1.nx∧H1.get H.nx=some (.arr [a,b] 26 0 0)∧slot A1.tm 0=.one (k)∧slot A1.tm 2=.one (w)∧slot A1.tm 3=.one (.i .i64 (B:Int))∧slot A1.tm 5=.one ((.o (.ptr H.nx 0 0 2)))∧A1.nt=36∧A1.dfr=[]) ⟨(Fr.refl _).new _,zA6 _,aB rfl,zL⟩ ?_;rintro A1 H1 ⟨g1,m1,rx,t0,t2,t3,t5,A0,B0⟩;clear h0 h1 h2 h3 tm hK K;have hk:=hk.gr g1;have ha:=ha.gr g1;have hb:=hb.gr g1;have hw:=hw.gr g1;refine zG (qA tyR iO) λK hK=>?_;refine WE.con (gU H1 k a b w o p v hk hL ha hb hB hw hV) λw' H2 g2 hq=>?_;subst hq;have rx:=(g2.get _ m1 zB2).trans rx;have m1:=zA0 m1 g2.nx;have hk:=hk.gr g2;have ha:=ha.gr g2;have hb:=hb.gr g2;have hw:=hw.gr g2;have g2:=g1.gr g2;clear g1;by_cases W0:ep o p v=0
 case neg=>
  have ce:(ep o p v==0)=false:=zB5 W0;have hR:vT o p v B [] (ep o p v):=.inl ⟨W0,rfl,rfl⟩;have G4:SlF H2 (.o .nilS) []:=SlF.nil;replace hR:=hd hR;replace G4:=hd G4;replace W0:=hd W0;refine zK tyR ?_;exact fin.out (.o .nilS) _ [] _ _ qp qp qe g2 G4.out hR.out
 have ce:(ep o p v==0)=true:=by rw[W0];rfl
 obtain⟨hC,hRl,I1,hcp,B9⟩:=nB W0
 obtain⟨ls,rfl,_,_,J9,_⟩:=lV hcp
 have D0:=nG W0 (L0 ls rfl);have E8:∀y∈p.1,aH (bS (some ls) y.2.2.1).1 (bS (some ls) y.2.2.1).2=0:=λy hy=>L0 ls rfl _ (sD (uj J9 y hy));have hC64:p.1.length≤64:=hC;have hL1:=hL ls rfl;have V6:=W0;clear hRl I1 hcp B9 J9 hB hV hL L0 hC;replace V6:=hd V6;replace D0:=hd D0;replace E8:=hd E8;replace hL1:=hd hL1;by_cases hB0:B<0
 ·have hR:vT (some ls) p v B [] 8:=.inr (.inl ⟨V6.out,.inl hB0,rfl,rfl⟩);have G4:SlF H2 (.o .nilS) []:=SlF.nil;replace hR:=hd hR;replace G4:=hd G4;refine zK tyR ?_;exact fin.out (.o .nilS) _ [] _ _ qp qp qe g2 G4.out hR.out
 by_cases hB3:3<B
 ·have hR:vT (some ls) p v B [] 8:=.inr (.inl ⟨V6.out,.inr hB3,rfl,rfl⟩);have G4:SlF H2 (.o .nilS) []:=SlF.nil;replace hR:=hd hR;replace G4:=hd G4;refine zK tyR ?_;exact fin.out (.o .nilS) _ [] _ _ qp qp qe g2 G4.out hR.out
 obtain⟨n,rfl⟩:=Int.eq_ofNat_of_zero_le (Int.not_lt.1 hB0)
 have hn3:n≤3:=by omega
 refine zK tyR ?_;refine zG (qA tyR Gv) λK hK=>?_;refine WE.con (BT H2 k a b w ls p.1 p.2 v n 0 hk hL1.out ha hb hw hC64 E8.out D0.out hn3 (by decide)) λw' H3 g3⟨F',r',found',Y3,hF,hP⟩=>?_;subst Y3;have flen:=hF.len;have flt:=hF.lt;have g3:=g2.gr g3;rcases hP with⟨rfl,L5⟩|⟨cc,hcn,Z0,u7,_,V9,L5⟩
 ·have hFe:=hF.Zt;subst hFe;have hR:vT (some ls) p v (n:Int) [] 4:=.inr (.inr ⟨V6.out,⟨by omega,by omega⟩,ls,rfl,.inl ⟨rfl,rfl,λcc X3 g=>L5 cc (by omega) g⟩⟩);have G4:SlF H3 (.o .nilS) []:=SlF.nil;replace hR:=hd hR;replace G4:=hd G4;replace hF:=hd hF;replace L5:=hd L5;have j5:((((([]:List (List Fx)).length:Nat):Int))==0)=true:=rfl;refine zK tyR ?_;exact fin.out (.o .nilS) _ [] _ _ qp qp qe g3 G4.out hR.out
 have hon:=u7.on rfl;cases found' with
 |nil=>exact absurd rfl Z0
 |cons f l=>
  have J8:l=[]:=List.eq_nil_of_length_eq_zero (by rw[List.length_cons]at hon;omega);subst J8;have hsol:=u7.so f (List.mem_cons_self ..);have hR:vT (some ls) p v (n:Int) f 0:=.inr (.inr ⟨V6.out,⟨by omega,by omega⟩,ls,rfl,.inr ⟨rfl,cc,by omega,hsol,L5,λg hg=>by
   have:=V9 g hg;unfold Got at this;rw[zB0 rfl]at this;obtain⟨g',Y1,e⟩:=this
   rw[List.mem_singleton.1 Y1]at e;exact e⟩⟩)
  rcases hF with⟨_,h,_⟩|⟨id,gen,lo,us,ex,rfl,_,h3,h4,h5,_,_,h8⟩
  ·cases h
  cases us with
  |nil=>exact h8.elim
  |cons u us=>
   have hu:=h8.1.1;have lu:=hu.lt;have j5:((((([f]:List (List Fx)).length:Nat):Int))==0)=false:=rfl;clear u7 V9 L5 hsol hon Z0 h8;replace hR:=hd hR;replace hu:=hd hu;refine zK tyR ?_;exact fin.out u _ f _ _ qp qp qe g3 hu.out hR.out
section
variable{ls:List Lad}{lc:List Cl}{lr:List Rl}{v:List Int}
def pq(ls:List Lad)(lc:List Cl)(lr:List Rl)(v:List Int)(x:Fx):Prop:=(0≤x.1∧x.1<v.length)∧x.2.1=v.getD x.1.toNat 0∧x.2.2.2≠0∧x.2.2.2=qs ls lc lr x
def tb:List Fx->Int
 |[]=>0
 |x::l=>mF x.2.2.2+tb l
theorem EH{prev:Option Int}{f:Fx}:ee v prev f=false↔(0≤f.1∧f.1<v.length)∧(∀p,prev=some p->p<f.1)∧f.2.1=v.getD f.1.toNat 0:=by
 unfold ee;rw[Bool.or_eq_false_iff,Bool.or_eq_false_iff,Bool.or_eq_false_iff,decide_eq_false_iff_not,decide_eq_false_iff_not];constructor
 ·rintro⟨h1,h2,h3,h4⟩
  refine⟨by omega,λp hp=>?_,?_⟩
  ·subst hp;have:decide (f.1≤p)=false:=h3;rw[decide_eq_false_iff_not]at this;omega
  have:(f.2.1==v.getD f.1.toNat 0)=true:=by simpa using h4
  exact eq_of_beq this
 rintro⟨h1,h2,h3⟩
 refine⟨by omega,by omega,?_,by rw[h3];simp⟩
 cases prev with
 |none=>rfl
 |some p=>have:=h2 p rfl;exact decide_eq_false (by omega)
theorem vI:∀(l:List Fx)(prev:Option Int)(t:Int),(fZ ls lc lr v prev t l).2=0->((∀x∈l,pq ls lc lr v x)∧lj l∧∀p,prev=some p->∀x∈l,p<x.1)∧(fZ ls lc lr v prev t l).1=t+tb l
 |[],prev,t,_=>⟨⟨λ_ h=>absurd h List.not_mem_nil,List.Pairwise.nil,λ_ _ _ h=>absurd h List.not_mem_nil⟩,(Int.add_zero t).symm⟩
 |f::l,prev,t,h=>by
  rw[fZ]at h ⊢;by_cases c1:ee v prev f=true
  ·rw[zB0 c1]at h;cases h
  rw[zB1 c1]at h ⊢;by_cases c2:f.2.2.2=0∨f.2.2.2≠qs ls lc lr f
  ·rw[zB0 c2]at h;cases h
  rw[zB1 c2]at h ⊢;obtain⟨⟨a1,a2,a3⟩,a4⟩:=vI l _ _ h
  obtain⟨b1,b2,b3⟩:=EH.1 (by simpa using c1)
  have hf:pq ls lc lr v f:=⟨b1,b3,λe=>c2 (.inl e),Classical.byContradiction λe=>c2 (.inr e)⟩;refine⟨⟨λx hx=>(List.mem_cons.1 hx).elim (λe=>by rw[e];exact hf) (a1 x),List.pairwise_cons.2 ⟨λx hx=>a3 _ rfl x hx,a2⟩,λp hp x hx=>?_⟩,?_⟩
  ·have hpf:=b2 p hp;rcases List.mem_cons.1 hx with e|hx
   ·rw[e];exact hpf
   have:=a3 _ rfl x hx;omega
  rw[a4,tb];omega
theorem FD:∀(l:List Fx)(prev:Option Int)(t:Int),(∀x∈l,pq ls lc lr v x)->lj l->(∀p,prev=some p->∀x∈l,p<x.1)->fZ ls lc lr v prev t l=(t+tb l,0)
 |[],prev,t,_,_,_=>by rw[fZ,tb,Int.add_zero]
 |f::l,prev,t,h1,h2,h3=>by
  obtain⟨b1,b2,b3,b4⟩:=h1 f (List.mem_cons_self ..)
  have c1:ee v prev f=false:=EH.2 ⟨b1,λp hp=>h3 p hp f (List.mem_cons_self ..),b2⟩;obtain⟨h4,h5⟩:=List.pairwise_cons.1 h2
  rw[fZ,zB1 (by rw[c1];decide),zB1 (λh=>h.elim b3 λh=>h b4),FD l _ _ (λx hx=>h1 x (List.mem_cons_of_mem _ hx)) h5 λp hp x hx=>by cases hp;exact h4 x hx,tb];congr 1
  omega
end
section
variable{ls:List Lad}{lc:List Cl}{lr:List Rl}{v:List Int}
theorem XI{i:Int}(h0:0≤i)(h1:i<lc.length):(ldC ls lc).getD i.toNat ([],[])=bS (some ls) (oh lc i):=by
 have C0:i.toNat<lc.length:=by omega
 unfold ldC oh;rw[List.getD_eq_getElem?_getD,List.getElem?_map,zB4 C0];rfl
theorem wD(D0:lA (ldC ls lc) lr v){x:Fx}(hx:0≤x.1∧x.1<v.length)(hf:x.2.1=v.getD x.1.toNat 0):
  qs ls lc lr x=if kF (ldC ls lc) v x.1 x.2.2.1≠0 then kF (ldC ls lc) v x.1 x.2.2.1 else if 0≤gO 0 lr x.1∧v.getD x.1.toNat 0≠x.2.2.1∧1≤x.2.2.1∧x.2.2.1≤1099511627776 then 5 else 0:=by
 obtain⟨L0,G8,R6⟩:=D0.lad hx.1 hx.2
 have I1:=D0.vl;rw[ur]at I1;have L7:=Wr D0.vl D0.ck D0.vr x.1 x.2.2.1;have hL:=XI (ls:=ls) (lc:=lc) hx.1 (by omega);have he:iU (bS (some ls) (oh lc x.1)).1 (bS (some ls) (oh lc x.1)).2 x.2.2.1 x.2.1=kF (ldC ls lc) v x.1 x.2.2.1:=by
  rw[<-hL,hf];by_cases hb:1≤x.2.2.1∧x.2.2.1≤1099511627776
  ·exact(Ab L0 G8 R6 hb.1 hb.2).symm
  have h0:kF (ldC ls lc) v x.1 x.2.2.1=0:=Classical.byContradiction λh=>hb (L7 h).1;rw[h0];unfold iU;rw[zB1 λh=>hb ⟨h.1.1,h.2.1⟩]
 unfold qs vo;rw[he,hf]
theorem KR{t:Int}:0≤gO 0 lr t↔∃r∈lr,r.1=t:=by
 rw[<-decide_eq_true_iff (p:=0≤gO 0 lr t),Rf];unfold isT;rw[List.any_eq_true];constructor
 ·rintro⟨r,hr,h⟩;exact⟨r,hr,by simpa using h⟩
 rintro⟨r,hr,h⟩;exact⟨r,hr,by simpa using h⟩
theorem pq.fix(D0:lA (ldC ls lc) lr v){x:Fx}(h:pq ls lc lr v x):((0≤x.1∧x.1<v.length)∧x.2.2.1≠v.getD x.1.toNat 0∧(1≤x.2.2.1∧x.2.2.1≤1099511627776)∧(kF (ldC ls lc) v x.1 x.2.2.1≠0∨∃r∈lr,r.1=x.1))∧mF x.2.2.2=(wF (kF (ldC ls lc) v) x:Int):=by
 obtain⟨h1,h2,h3,h4⟩:=h
 have L7:=Wr D0.vl D0.ck D0.vr x.1 x.2.2.1;rw[wD D0 h1 h2]at h4;unfold wF mF;by_cases hk:kF (ldC ls lc) v x.1 x.2.2.1≠0
 ·rw[zB0 hk]at h4;obtain⟨b1,b2,b3⟩:=L7 hk
  refine⟨⟨h1,b2,b1,.inl hk⟩,?_⟩
  rw[h4,zB1 b3,zB1 hk];rfl
 rw[zB1 hk]at h4;by_cases hc:0≤gO 0 lr x.1∧v.getD x.1.toNat 0≠x.2.2.1∧1≤x.2.2.1∧x.2.2.1≤1099511627776
 ·rw[zB0 hc]at h4;refine⟨⟨h1,λe=>hc.2.1 e.symm,hc.2.2,.inr (KR.1 hc.1)⟩,?_⟩
  rw[h4,zB0 rfl,zB0 (Classical.not_not.1 hk)];rfl
 rw[zB1 hc]at h4;exact absurd h4 h3
theorem vX(D0:lA (ldC ls lc) lr v):∀{l:List Fx},(∀x∈l,pq ls lc lr v x)->tb l=(cN (wF (kF (ldC ls lc) v)) l:Int)
 |[],_=>rfl
 |x::l,h=>by
  rw[tb,vX D0 λy hy=>h y (List.mem_cons_of_mem _ hy),((h x (List.mem_cons_self ..)).fix D0).2,cN];omega
theorem Sol.Zc(D0:lA (ldC ls lc) lr v){c:Nat}{f:List Fx}(h:Sol v lr (kF (ldC ls lc) v) c f):∀x∈f,pq ls lc lr v x:=λx hx=>by
 obtain⟨I,T,h1,h2,h3,h4,h5⟩:=h
 rcases List.mem_append.1 (h4.mem_iff.1 hx)with hx|hx
 ·obtain⟨a1,a2,a3,a4,_⟩:=h1.ok x hx
  refine⟨a1,a2,a4,?_⟩
  rw[wD D0 a1 a2,zB0 (by rw[<-a3];exact a4)];exact a3
 obtain⟨⟨r,hr,e1⟩,e2,e3⟩:=jg lr T h2 x hx
 obtain⟨s,hs,e4,e5,e6,e7,e8⟩:=ix lr T h2 x hx
 have M3:=D0.rp.tr r hr;have h1:0≤x.1∧x.1<v.length:=by rw[e1];exact M3
 refine⟨h1,e2,?_,?_⟩
 ·rw[e3];by_cases hk:kF (ldC ls lc) v x.1 x.2.2.1=0
  ·rw[zB0 hk];decide
  rw[zB1 hk];exact hk
 rw[wD D0 h1 e2,e3];by_cases hk:kF (ldC ls lc) v x.1 x.2.2.1=0
 ·rw[zB0 hk,zB1 (λh=>h hk),zB0 ⟨KR.2 ⟨r,hr,e1.symm⟩,by rw[e5,e4];exactλh=>e6 h.symm,by omega,by omega⟩]
 rw[zB1 hk,zB0 hk]
end
def FU:∀(l:List Fx)(v:List Int),(∀n∈v,1≤n∧n≤1099511627776)->(∀x∈l,1≤x.2.2.1∧x.2.2.1≤1099511627776)->∀n∈aM v l,1≤n∧n≤1099511627776
 |[],v,h,_=>h
 |x::l,v,h,h2=>by
  rw[rK];refine FU l _ (λn hn=>?_) λy hy=>h2 y (List.mem_cons_of_mem _ hy);rcases List.mem_or_eq_of_mem_set hn with hn|hn
  ·exact h n hn
  rw[hn];exact h2 x (List.mem_cons_self ..)
section
variable{ls:List Lad}{p:Pz}{v:List Int}
theorem Hu(h:ep (some ls) p v=0)(l:List Fx):bW (some ls) p v l=fZ ls p.1 p.2 v none 0 l:=by
 unfold bW;rw[zB1 (λhh=>hh h)];rfl
theorem My(h0:ep (some ls) p v=0)(L0:∀x∈ls,aH x.1 x.2=0){l:List Fx}(hc:(bW (some ls) p v l).2=0):(∀x∈l,pq ls p.1 p.2 v x)∧lj l∧(bW (some ls) p v l).1=(cN (wF (kF (ldC ls p.1) v)) l:Int):=by
 rw[Hu h0]at hc ⊢;obtain⟨⟨a1,a2,_⟩,a3⟩:=vI l none 0 hc
 exact⟨a1,a2,by rw[a3,Int.zero_add,vX (nG h0 L0) a1]⟩
theorem uN{l:List Fx}(hc:(bW (some ls) p v l).2=0):cq (some ls) p v l=(aM v l,0):=by
 unfold cq;rw[zB1 (λh=>h hc)]
theorem Cu(h0:ep (some ls) p v=0)(L0:∀x∈ls,aH x.1 x.2=0){l:List Fx}(hl:∀x∈l,pq ls p.1 p.2 v x):ep (some ls) p (aM v l)=0:=by
 have D0:=nG h0 L0;obtain⟨hC,hR,I1,hcp,_⟩:=nB h0
 have Z1:=FU l v (wP h0) λx hx=>((hl x hx).fix D0).1.2.2.1;have hv:sy p.1 (aM v l)=true:=by
  unfold sy;rw[Bool.and_eq_true];refine⟨by rw[cA,I1];exact beq_self_eq_true _,?_⟩
  cases hb:(aM v l).any jf with
  |false=>rfl
  |true=>
   obtain⟨n,hn,e⟩:=List.any_eq_true.1 hb
   have:=Z1 n hn;unfold jf at e;rw[Bool.or_eq_true,decide_eq_true_eq,decide_eq_true_eq]at e;omega
 unfold ep;rw[zB1 (λh=>h hcp),zB1 (by rw[hv];decide)]
theorem wh(h:ep (some ls) p v=0):dk (some ls) p v=(lE v 0 [] p.2,0):=by
 unfold dk;rw[zB1 (λhh=>hh h)]
theorem Hm(h0:ep (some ls) p v=0)(L0:∀x∈ls,aH x.1 x.2=0){l:List Fx}(hc:(bW (some ls) p v l).2=0)(hw:(dk (some ls) p (cq (some ls) p v l).1).1=[]):∃c g,Sol v p.2 (kF (ldC ls p.1) v) c g∧(c:Int)≤(bW (some ls) p v l).1:=by
 obtain⟨a1,a2,a3⟩:=My h0 L0 hc
 have D0:=nG h0 L0;rw[uN hc,wh (Cu h0 L0 a1)]at hw;have hV:=((pj _ _ _ _).1 hw).2;obtain⟨c,g,h1,h2⟩:=Sol.UH D0.rp a2 (λx hx=>((a1 x hx).fix D0).1) hV
 exact⟨c,g,h1,by rw[a3];omega⟩
theorem Vh(h0:ep (some ls) p v=0)(L0:∀x∈ls,aH x.1 x.2=0){c:Nat}{f:List Fx}(hs:Sol v p.2 (kF (ldC ls p.1) v) c f):bW (some ls) p v f=((c:Int),0)∧cq (some ls) p v f=(aM v f,0)∧dk (some ls) p (aM v f)=([],0):=by
 have D0:=nG h0 L0;have hfx:=hs.Zc D0;have ha:lj f:=by
  obtain⟨I,T,_,_,_,_,h⟩:=hs
  exact h
 have h1:bW (some ls) p v f=((c:Int),0):=by
  rw[Hu h0,FD f none 0 hfx ha λ_ h=>by (cases h),vX D0 hfx,hs.cost D0.rp,Int.zero_add]
 refine⟨h1,uN (by rw[h1]),?_⟩
 rw[wh (Cu h0 L0 hfx),(pj _ _ _ _).2 ⟨rfl,hs.right D0.rp⟩]
end
def Vq(o:Option (List Lad))(p:Pz)(v:List Int)(l:List Fx):Prop:=(bW o p v l).2=0∧(cq o p v l).2=0∧(dk o p (cq o p v l).1).1=[]
def Qf{o:Option (List Lad)}{p:Pz}{v:List Int}{l:List Fx}(L0:∀ls,o=some ls->∀x∈ls,aH x.1 x.2=0)(h1:(bW o p v l).2=0):(dk o p (cq o p v l).1).2=0:=by
 have h0:ep o p v=0:=Classical.byContradiction λh=>by
  unfold bW at h1;rw[zB0 h]at h1;exact h h1
 obtain⟨ls,rfl,_⟩:=lV (nB h0).2.2.2.1
 have a:=(My h0 (L0 ls rfl) h1).1;rw[uN h1,wh (Cu h0 (L0 ls rfl) a)]
def Sh{o:Option (List Lad)}{p:Pz}{v:List Int}{B e:Int}{f l:List Fx}(L0:∀ls,o=some ls->∀x∈ls,aH x.1 x.2=0)(hR:vT o p v B f e)(he:e≠0):f=[]∧(e=4->Vq o p v l->B<(bW o p v l).1):=by
 rcases hR with⟨h1,h2,h3⟩|⟨h1,h2,h3,h4⟩|⟨h1,h2,ls,rfl,⟨h3,h4,h5⟩|⟨h3,_⟩⟩
 ·refine⟨h3,λ_ ha=>absurd ha.1 ?_⟩
  unfold bW;rw[zB0 h1];exact h1
 ·exact⟨h4,λh=>by omega⟩
 ·refine⟨h4,λ_ ha=>?_⟩
  obtain⟨c,g,a,b⟩:=Hm h1 (L0 ls rfl) ha.1 ha.2.2
  refine Classical.byContradiction λhn=>h5 c (by omega) g a
 exact absurd h3 he
def SH{o:Option (List Lad)}{p:Pz}{v:List Int}{B e:Int}{f l:List Fx}(L0:∀ls,o=some ls->∀x∈ls,aH x.1 x.2=0)(hR:vT o p v B f e)(he:e=0):
  ((bW o p v f).2=0∧(cq o p v f).2=0∧dk o p (cq o p v f).1=([],0))∧(bW o p v f).1≤B∧(Vq o p v l->(bW o p v f).1≤(bW o p v l).1):=by
 rcases hR with⟨h1,h2,h3⟩|⟨h1,h2,h3,h4⟩|⟨h1,h2,ls,rfl,⟨h3,h4,h5⟩|⟨_,cc,h4,h5,h6,_⟩⟩
 ·exact absurd (h2.symm.trans he) h1
 ·omega
 ·omega
 obtain⟨a1,a2,a3⟩:=Vh h1 (L0 ls rfl) h5
 refine⟨⟨by rw[a1],by rw[a2],by rw[a2];exact a3⟩,by rw[a1];exact h4,λha=>?_⟩
 obtain⟨c,g,b1,b2⟩:=Hm h1 (L0 ls rfl) ha.1 ha.2.2
 rw[a1];have:cc≤c:=Nat.not_lt.1 λh=>h6 c h g b1;show(cc:Int)≤_
 omega
def RC{o:Option (List Lad)}{p:Pz}{v:List Int}{B e:Int}{f:List Fx}(L0:∀ls,o=some ls->∀x∈ls,aH x.1 x.2=0)(h:vT o p v B f e):f.length≤3:=by
 rcases h with⟨_,_,rfl⟩|⟨_,_,_,rfl⟩|⟨h1,h2,ls,rfl,⟨_,rfl,_⟩|⟨_,cc,h4,h5,_⟩⟩
 ·exact Nat.zero_le _
 ·exact Nat.zero_le _
 ·exact Nat.zero_le _
 have:=(Sol.fxb (nG h1 (L0 ls rfl)).rp h5).2;omega
def BX(H:Hp)(u a b w fx:AC)(B:Int)(ls:List Lad)(p:Pz)(v:List Int)(l:List Fx)(hl:eM H u ls)(ha:dH H a p.1)(hb:dA H b p.2)(hB:PzB p)(hw:SlI H w v)(hV:v.length*8≤140737488355328)(hf:SlF H fx l)(hF:l.length*32≤140737488355328):
  C1 E2 3 [.agg [u,a,b,w],.one (.i .i64 B),.one fx] H λr _=>r=.one (.b true):=by
 refine C1.body (E:=E2) (nt:=156) (res:=[.tmp 6]) Tryz.func3 rfl rfl rfl rfl rfl λtm z0=>?_;have h0:=z0 0 _ rfl;have h1:=z0 1 _ rfl;have h2:=z0 2 _ rfl;clear z0;have C':=hl.lt;have ha0:=ha.lt;have M9:=hb.lt;have hw0:=hw.lt;refine zG tyC λK hK=>?_;refine hK.out _ _ ?_;refine R1.gen (λA1 H1=>Gr H H1∧H.nx<H1.nx∧H1.get H.nx=some (.arr [u,a,b,w] 29 0 0)∧slot A1.tm 1=.one (.i .i64 (B:Int))∧slot A1.tm 2=.one (fx)∧slot A1.tm 3=.one ((.o (.ptr H.nx 0 0 4)))∧A1.nt=156∧A1.dfr=[]) ⟨(Fr.refl _).new _,zA6 _,aB rfl,zL⟩ ?_;rintro A1 H1 ⟨g1,m1,rx,t1,t2,t3,A0,B0⟩;clear h0 h1 h2 tm hK K C' ha0 M9 hw0;obtain⟨N,hN⟩:∃N,N=H.nx:=⟨_,rfl⟩
 rw[<-hN]at m1 rx t3;clear hN;have hl:=hl.gr g1;have ha:=ha.gr g1;have hb:=hb.gr g1;have hw:=hw.gr g1;have hf:=hf.gr g1;refine zG (qA tyC SY) λK hK=>?_;refine WE.con (Om H1 u ls hl) λw' H2 g2⟨p1,p2,hq,hp,hr,L5⟩=>?_;subst hq;have rx:=(g2.get _ m1 zB2).trans rx;have m1:=zA0 m1 g2.nx;have ha:=ha.gr g2;have hb:=hb.gr g2;have hw:=hw.gr g2;have hf:=hf.gr g2;clear L5 hl hr;have R4:∀l,bkO ls=some l->∀x∈l,x.2.length≤1000000:=λl h x hx=>by have:=(Yk h).2 x hx;omega
 have L0:∀l,bkO ls=some l->∀x∈l,aH x.1 x.2=0:=λl h=>Vj h;generalize bkO ls=o at hp R4 L0;replace R4:Hd _:=R4;replace L0:Hd _:=L0;have hVV:v.length≤4611686018427387904:=by omega
 have hFF:l.length≤4398046511104:=by omega
 refine zK tyC ?_;refine zG (qA tyC Pj) λK hK=>?_;refine WE.con (IS H2 p1 a b w o p v B hp R4.out L0.out ha hb hB hw hVV) λw' H3 g3⟨c,e,f,hq,hc,hR⟩=>?_;subst hq;have rx:=(g3.get _ m1 zB2).trans rx;have m1:=zA0 m1 g3.nx;have ha:=ha.gr g3;have hb:=hb.gr g3;have hw:=hw.gr g3;have hf:=hf.gr g3;have hp:=hp.gr g3;have m9:=RC L0.out hR;replace hR:=hd hR;refine zK tyC ?_;refine zG (qA tyC Bv) λK hK=>?_;refine WE.con (uF H3 p1 a b w fx o p v l hp R4.out L0.out ha hb hB hw hVV hf hFF) λw' H4 g4 hq=>?_;subst hq;have rx:=(g4.get _ m1 zB2).trans rx;have m1:=zA0 m1 g4.nx;have ha:=ha.gr g4;have hb:=hb.gr g4;have hw:=hw.gr g4;have hp:=hp.gr g4;have hf:=hf.gr g4;have hc:=hc.gr g4;refine zK tyC ?_;refine zG (qA tyC Ew) λK hK=>?_;refine WE.con (Ak H4 p1 a b w fx o p v l hp R4.out L0.out ha hb hB hw hV hf hFF) λw' H5 g5⟨c1,hq,E8⟩=>?_;subst hq;have rx:=(g5.get _ m1 zB2).trans rx;have m1:=zA0 m1 g5.nx;have ha:=ha.gr g5;have hb:=hb.gr g5;have hw:=hw.gr g5;have hp:=hp.gr g5;have hf:=hf.gr g5;have hc:=hc.gr g5;refine zS tyC ?_;refine hK.out _ _ ?_;have k1:=wA o p v l;obtain⟨h,hh⟩:∃h,h=(bW o p v l).1:=⟨_,rfl⟩
 obtain⟨ad,had⟩:∃ad:Bool,(ad=true↔Vq o p v l):=by
  by_cases q:Vq o p v l
  ·exact⟨true,λ_=>q,λ_=>rfl⟩
  exact⟨false,(λh=>by cases h),λh=>absurd h q⟩
 rw[<-hh];refine R1.jw (λA4=>slot A4.tm 1=.one (.i .i64 (B:Int))∧slot A4.tm 2=.one (fx)∧slot A4.tm 3=.one ((.o (.ptr N 0 0 4)))∧slot A4.tm 7=.one (p1)∧slot A4.tm 9=.one (c)∧slot A4.tm 10=.one (.i .i64 (e:Int))∧slot A4.tm 11=.one (.i .i64 (h:Int))∧slot A4.tm 12=.one (.i .i64 ((bW o p v l).2:Int))∧slot A4.tm 13=.one (c1)∧slot A4.tm 14=.one (.i .i64 ((cq o p v l).2:Int))∧A4.nt=156∧A4.dfr=[]) zL ?_;clear t1 t2 t3 A0 B0 A1 hK K;rintro A ⟨t1,t2,t3,t7,t9,t10,t11,t12,t13,t14,A0,B0⟩;have hA0:(bW o p v l).2=0->(cq o p v l).2=0:=λq=>by unfold cq;rw[zB1 (λh=>h q)]
 have b6:(bW o p v l).2≠0->ad=false:=λq=>by
  cases ad with
  |false=>rfl
  |true=>exact absurd (had.1 rfl).1 q
 replace hA0:=hd hA0;replace b6:=hd b6;replace had:=hd had;replace hh:=hd hh;refine zG tyC λK hK=>?_;refine hK.out _ _ ?_;refine R1.rA (λB6 H6=>Gr H5 H6∧slot B6.tm 1=.one (.i .i64 (B:Int))∧slot B6.tm 2=.one (fx)∧slot B6.tm 3=.one ((.o (.ptr N 0 0 4)))∧slot B6.tm 7=.one (p1)∧slot B6.tm 9=.one (c)∧slot B6.tm 10=.one (.i .i64 (e:Int))∧slot B6.tm 11=.one (.i .i64 (h:Int))∧slot B6.tm 15=.one (.b ad)∧B6.nt=156∧B6.dfr=[]) (λK6 n1 n2 n3=>?_) ?_
 ·by_cases q0:(bW o p v l).2=0
  ·have ce0:((bW o p v l).2==0)=true:=beq_iff_eq.2 q0;have ce1:((cq o p v l).2==0)=true:=beq_iff_eq.2 (hA0.out q0);have hw0:=Qf L0.out q0;have ce2:((dk o p (cq o p v l).1).2==0)=true:=beq_iff_eq.2 hw0;have ce3:((((dk o p (cq o p v l).1).1.length:Nat):Int)==0)=ad:=by
    cases ad with
    |true=>
     have:=(had.out.1 rfl).2.2;rw[this];rfl
    |false=>
     refine zB5 λhz=>?_;have:(dk o p (cq o p v l).1).1=[]:=List.eq_nil_of_length_eq_zero (by omega);exact zA8 (had.out.2 ⟨q0,hA0.out q0,this⟩)
   replace q0:=hd q0;replace hw0:=hd hw0;refine zW tyC ?_;refine zG (qA tyC Hf) λK hK=>?_;refine WE.con (zt H5 p1 a b c1 o p (cq o p v l).1 hp R4.out ha hb hB E8 (by omega)) λw' H6 g6⟨c2,hq,N7⟩=>?_;subst hq;have l2:=N7.len;have l3:=N7.lt;replace N7:=hd N7;refine zK tyC ?_;exact n1.out _ _ ⟨g6,zL⟩
  have ce0:((bW o p v l).2==0)=false:=zB5 q0;have had0:=b6.out q0;subst had0;replace q0:=hd q0;refine zW tyC ?_;exact n1.out _ _ ⟨Fr.refl _,zL⟩
 clear t1 t2 t3 t7 t9 t10 t11 t12 t13 t14 A0 B0 A hK K hA0 b6 E8;rintro A H6 ⟨g6,t1,t2,t3,t7,t9,t10,t11,t15,A0,B0⟩;have rx:=(g6.get _ m1 zB2).trans rx;have m1:=zA0 m1 g6.nx;have ha:=ha.gr g6;have hb:=hb.gr g6;have hw:=hw.gr g6;have hp:=hp.gr g6;have hc:=hc.gr g6;by_cases he:e=0
 ·have ce:(e==0)=true:=beq_iff_eq.2 he;obtain⟨⟨b1,b2,b3⟩,b4,b5⟩:=SH (l:=l) L0.out hR.out he
  have hfF:f.length≤4398046511104:=by omega
  have k2:=wA o p v f;have c1':((bW o p v f).2==0)=true:=beq_iff_eq.2 b1;have c2':((cq o p v f).2==0)=true:=beq_iff_eq.2 b2;have c3':((dk o p (cq o p v f).1).2==0)=true:=by rw[b3];rfl
  have c4':((((dk o p (cq o p v f).1).1.length:Nat):Int)==0)=true:=by rw[b3];rfl
  have c5':¬B<(bW o p v f).1:=by omega
  replace he:=hd he;replace b1:=hd b1;replace b2:=hd b2;replace b3:=hd b3;replace b4:=hd b4;replace b5:=hd b5;refine zW tyC ?_;refine zG (qA tyC Bv) λK hK=>?_;refine WE.con (uF H6 p1 a b w c o p v f hp R4.out L0.out ha hb hB hw hVV hc hfF) λw' H7 g7 hq=>?_;subst hq;have rx:=(g7.get _ m1 zB2).trans rx;have m1:=zA0 m1 g7.nx;have ha:=ha.gr g7;have hb:=hb.gr g7;have hw:=hw.gr g7;have hp:=hp.gr g7;have hc:=hc.gr g7;refine zK tyC ?_;refine zG (qA tyC Ew) λK hK=>?_;refine WE.con (Ak H7 p1 a b w c o p v f hp R4.out L0.out ha hb hB hw hV hc hfF) λw' H8 g8⟨c8,hq,hc8⟩=>?_;subst hq;have rx:=(g8.get _ m1 zB2).trans rx;have m1:=zA0 m1 g8.nx;have ha:=ha.gr g8;have hb:=hb.gr g8;have hw:=hw.gr g8;have hp:=hp.gr g8;have hc:=hc.gr g8;refine zK tyC ?_;refine zG (qA tyC Hf) λK hK=>?_;refine WE.con (zt H8 p1 a b c8 o p (cq o p v f).1 hp R4.out ha hb hB hc8 (by omega)) λw' H9 g9⟨c9,hq,hc9⟩=>?_;subst hq;have l2:=hc9.len;have l3:=hc9.lt;cases ad with
  |false=>
   refine zK (qA tyC eU) ?_;refine zG (qA tyC eU) λK hK=>?_;refine WE.dQ pB λHb gb _ _=>?_;refine zK tyC ?_;exact⟨_,_,aj (.b true) (.inr rfl) qe qp,rfl⟩
  |true=>
   have hle:(bW o p v f).1≤h:=by rw[hh.out];exact b5.out (had.out.1 rfl)
   refine zK (qA tyC eU) ?_;refine zG (qA tyC eU) λK hK=>?_;refine WE.dQ pB λHb gb _ _=>?_;refine zK tyC ?_;exact⟨_,_,aj (.b true) (.inr rfl) qe qp,rfl⟩
 have ce:(e==0)=false:=zB5 he;obtain⟨K9,h4⟩:=Sh (l:=l) L0.out hR.out he
 have l2:=hc.len;have l3:=hc.lt;have ce1:(((f.length:Nat):Int)==0)=true:=by rw[K9];rfl
 replace he:=hd he;replace K9:=hd K9;by_cases e4:e=4
 ·have ce4:(e==4)=true:=beq_iff_eq.2 e4;cases ad with
  |false=>
   replace e4:=hd e4;replace h4:=hd h4;refine zW (qA tyC eU) ?_;refine zG (qA tyC eU) λK hK=>?_;refine WE.dQ pB λHb gb _ _=>?_;refine zK tyC ?_;exact⟨_,_,aj (.b true) (.inr rfl) qe qp,rfl⟩
  |true=>
   have hgt:B<h:=by rw[hh.out];exact h4 e4 (had.out.1 rfl)
   replace e4:=hd e4;replace h4:=hd h4;refine zW (qA tyC eU) ?_;refine zG (qA tyC eU) λK hK=>?_;refine WE.dQ pB λHb gb _ _=>?_;refine zK tyC ?_;exact⟨_,_,aj (.b true) (.inr rfl) qe qp,rfl⟩
 have ce4:(e==4)=false:=zB5 e4;replace e4:=hd e4;replace h4:=hd h4;refine zW (qA tyC eU) ?_;refine zG (qA tyC eU) λK hK=>?_;refine WE.dQ pB λHb gb _ _=>?_;refine zK tyC ?_;exact⟨_,_,aj (.b true) (.inr rfl) qe qp,rfl⟩
open Go.ChangeShapes Go.WideShapes Go.ChangeAt Go.RowKit Go.Eng
abbrev Ys:=fX (vJ .i64) (fX (vJ .i64) (fX (vJ .i64) (vJ .i64)))
abbrev Uj:=tI Tryz.prog 80 4 Ys
abbrev QU:=fX Nw (fX qw GP)
def Vn:iz Ys:=cQ cU (cQ cU (cQ cU cU))
def HP:iz Nw:=nF (cQ eZ yc)
def wm:iz qw:=cQ sb Po
def Vz{W:World}:Opn Tryz.prog W 4 Ys 80:=dD Tryz.underlying80 (by kernel_rfl) rfl (ca (iq Tryz.underlying3) cU (ca (iq Tryz.underlying3) cU (ca (iq Tryz.underlying3) cU (fT (iq Tryz.underlying3)))))
def Pg{W:World}(hB:kQ W):Opn Tryz.prog W 1 Uj 30:=gm Tryz.underlying30 (by kernel_rfl) (by decide) Vn hB Vz
def SM{W:World}(hB:kQ W):Opn Tryz.prog W 4 QU 29:=dD Tryz.underlying29 (by kernel_rfl) rfl (ca (Rc hB) HP (ca (IF hB) wm (fT (Fk hB))))
def Oh{W:World}:EV Tryz.prog W 4 QU 29:=tw Tryz.underlying29 (by kernel_rfl) rfl (oH (lC Tryz.underlying22) HP (oH HF wm (xG (lC Tryz.underlying27))))
def Hk:Tryz.prog.bytesOf 80=32:=by kernel_rfl
def RT{B:Nat}{H:Hp}{c:List AC}{l:List Fx}(h:Uj B H c l):∃u,c=[u]∧SlF H u l∧l.length*32≤B:=by
 obtain⟨u,rfl,⟨css,h1,h2⟩,h3⟩:=h
 refine⟨u,rfl,?_,by rwa [Hk]at h3⟩
 have:=ru (f:=fxC) (h2.mono λc x⟨_,c1,c2,e,a,c3,c4,e2,b,c5,c6,e3,d,f⟩=>by rw[e,a.1,e2,b.1,e3,d.1,f.1];rfl);rw[this]at h1;exact h1
def VH{B:Nat}{H:Hp}{c:List AC}{x:List Lad×Pz×List Int}(hB:B≤140737488355328)(h:QU B H c x):∃u a b w,c=[u,a,b,w]∧eM H u x.1∧dH H a x.2.1.1∧dA H b x.2.1.2∧PzB x.2.1∧SlI H w x.2.2∧x.2.2.length*8≤B:=by
 obtain⟨c1,c2,rfl,h1,c3,c4,rfl,h2,h3⟩:=h
 obtain⟨u,e,N5⟩:=id h1
 subst e;obtain⟨a,b,rfl,k1,k2,k3⟩:=Zf hB h2
 obtain⟨w,rfl,k4,k5⟩:=Mc h3
 exact⟨u,a,b,w,rfl,(Wq h1).1,k1,k2,k3,k4,k5⟩
def Ly:∀t∈[29,30],Tryz.prog.readableRec t=true∧t<Tryz.prog.types.size:=by
 have h1:Tryz.prog.readableRec 29=true:=by kernel_rfl
 have h2:Tryz.prog.readableRec 30=true:=by kernel_rfl
 have k1:decide (29<Tryz.prog.types.size)=true:=by kernel_rfl
 have k2:decide (30<Tryz.prog.types.size)=true:=by kernel_rfl
 intro t ht;simp only[List.mem_cons,List.not_mem_nil,or_false]at ht;rcases ht with rfl|rfl
 ·exact⟨h1,of_decide_eq_true k1⟩
 exact⟨h2,of_decide_eq_true k2⟩
def Rm:∀t∈[29,3,30],Tryz.prog.readableRec t=true∧t<Tryz.prog.types.size:=by
 have h1:Tryz.prog.readableRec 3=true:=by kernel_rfl
 have k1:decide (3<Tryz.prog.types.size)=true:=by kernel_rfl
 intro t ht;simp only[List.mem_cons,List.not_mem_nil,or_false]at ht;rcases ht with rfl|rfl|rfl
 ·exact Ly _ (by simp)
 ·exact⟨h1,of_decide_eq_true k1⟩
 exact Ly _ (by simp)
def xy(os:Os)(started:os.Started)(H:Type)(enc:TypeId×Value->H):
  ReturnsInHanded {} Tryz.checked os 3 .any (Rows.accountRepairFewestSpec.pre6 enc Tryz.prog Tryz.f3 Rows.accountRepairFewestRow.domain false) (Rows.accountRepairFewestSpec.post enc Tryz.prog Tryz.f3 false true false false):=by
 refine returnsInHanded_of_change_sized (C:=Tryz.checked) Tryz.own started (by kernel_rfl) Tryz.func3
  (ChangeSpec.witness6 (enc:=enc) (C:=Tryz.checked) false ⟨#[],#[.agg #[.slice none 0 0,.slice none 0 0,.slice none 0 0,.slice none 0 0],.int .i64 0,.slice none 0 0],[]⟩ 8 (by kernel_rfl) (by kernel_rfl) (by kernel_rfl) (by kernel_rfl)) ?_
 intro W base args ds gs before hval0 hW hcnd0 L1 _;clear hcnd0;have B7:∀(j:Nat)t v,Tryz.f3.params[j]?=some t->args[j]?=some v->Value.okWide Tryz.prog W .any base t v:=hval0;have hW':=hW;obtain⟨p,q,hA0,hV,rfl,hfz,Z4⟩:=hW
 have hA:DataW.TrodAll enc Tryz.prog W 0 (λ_=>true) true Tryz.f3.params.toList args.toList ds p:=hA0;rw[Tryz.params3]at hA B7 L1;have hAll:=hA;obtain⟨v0,v1,v2,d0,d1,d2,p0,p1,p2,rfl,rfl,rfl,h0,h1,h2⟩:=trodAll_three hA
 obtain⟨rfl,rfl⟩:=trodVars_none hV
 clear hA0 hval0;simp only[List.append_nil]at hW' hfz;have hw:∀(j:Nat)(t:TypeId)(d:DataW H),[29,3,30][j]?=some t->[d0,d1,d2][j]?=some d->∀n∈d.weights Tryz.prog t,n≤reachBytes:=λj t d ht hd n hn=>by
  have:=List.all_eq_true.1 L1 n (DataW.weights_mem_each (j:=j) (by rw[List.getElem?_append_left (by have:=(List.getElem?_eq_some_iff.1 ht).1;exact this)];exact ht) (by rw[List.getElem?_append_left (by have:=(List.getElem?_eq_some_iff.1 hd).1;exact this)];exact hd) n hn);simpa using this
 obtain⟨y0,u0,l0,a0,b0,_,c0⟩:=Tv Tryz.underlying29 (λhB=>SM hB) Oh (B7 0 _ v0 rfl rfl) h0 (hw 0 _ _ rfl rfl) [] Tw
 obtain⟨n,rfl,rfl,rfl,_⟩:=open_int Tryz.underlying3 (B7 1 _ v1 rfl rfl) h1
 obtain⟨y1,u1,l1,a1,b1,c1⟩:=Wf Tryz.underlying30 (λhB=>Pg hB) (B7 2 _ v2 rfl rfl) h2 (hw 2 _ _ rfl rfl) _ a0
 obtain⟨u,a,b,w,rfl,e0,e1,e2,e3,e4,e5⟩:=VH vB c0
 obtain⟨fx,e6,e7,e8⟩:=RT c1
 cases e6
 have S0:=Ga (E:=E2) Zj (f:=3) (args:=[.agg [u,a,b,w],.one (.i .i64 n),.one u1]) (vs:=[v0,.int .i64 n,v2]) (w:=W) (l:=[]++y0++y1) a1
  ⟨AR.mono (jX _ _) b0,rfl,b1,trivial⟩
  (BX _ u a b w u1 n l0.1 l0.2.1 l0.2.2 l1 (e0.gr (jv _ _)) (e1.gr (jv _ _)) (e2.gr (jv _ _)) e3 (e4.gr (jv _ _)) (zA2 e5 vB) e7 (zA2 e8 vB))
 refine S0.mono λe W'⟨he,hw⟩=>?_;subst he;have C0:∀x∈p0++[]++p2,x.block<W.heap.size:=λx hx=>hW'.lt x (by simpa using hx);exact⟨_,rfl,Sy rfl hW' rfl (by kernel_rfl) rfl rfl rfl (sO hw) λsp T6=>ou Tryz.laidOut (sO hw) Rm (by simpa using hAll) (by simpa using C0) T6⟩
theorem fewest_holds:Rows.AccountRepairFewestSaid:=
 OpenClaim.holds_of_wide 3 Tryz.f3 rfl rfl rfl rfl rfl rfl rfl ⟨rfl,rfl,rfl,rfl,rfl⟩ rfl rfl rfl rfl rfl (by kernel_rfl) Tryz.func3 (by kernel_rfl)
  (of_decide_eq_true (by kernel_rfl)) (by unfold Func.isWrapper;first|(rw[zB0 (by decide +kernel)];kernel_rfl)|(rw[zB1 (by decide +kernel)];exact⟨rfl,rfl⟩))
  (λos started H enc _=>xy os started H enc)
end Go.Proofs.YtgepceljhelekaaGreat

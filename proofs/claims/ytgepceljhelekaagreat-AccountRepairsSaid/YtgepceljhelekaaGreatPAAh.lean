/- A part of the proof. -/
import Derived.Test.YtgepceljhelekaaGreatPAAg
set_option maxRecDepth 100000
set_option maxHeartbeats 64000000
set_option linter.all false
open Go.Proofs.Tryz (prog)
noncomputable section
namespace Go.Proofs.YtgepceljhelekaaGreat
open Go Go.Eng
def AH:ao prog 178=true:=ae
def nB:ao prog 192=true:=ae
def QA:ao prog 155=true:=ae
def LR:ao prog 181=true:=ae
def tR:ao prog 168=true:=ae
def AI:ao prog 180=true:=ae
def aaE:ao prog 193=true:=ae
def Iw:ao prog 141=true:=ae
def Ga:ao prog 162=true:=ae
abbrev Gp:=Int×List UInt8×Bool
def gpC(x:Gp):List AC:=[.i .i64 x.1,.o (.str x.2.1),.b x.2.2]
def dQ(x:Gp):gpC x=[.i .i64 x.1,.o (.str x.2.1),.b x.2.2]:=by unfold gpC;rfl
def zt(x:Gp):(gpC x).length=3:=rfl
def fN(H:Hp)(v:AC)(l:List Gp):Prop:=SlC H v 3 l.length (l.flatMap gpC)
def fN.gr{H H':Hp}{v:AC}{l:List Gp}(h:fN H v l)(hg:Gr H H'):fN H' v l:=SlC.gr h hg
def fN.len{H:Hp}{v:AC}{l:List Gp}(h:fN H v l):eD H 1 (.one v)=.val (.one (.i .i64 (l.length:Int))) H:=SlC.len h
def fN.lt{H:Hp}{v:AC}{l:List Gp}(h:fN H v l):ltV (.one v) H.nx:=pD h
def fN.nil{H:Hp}:fN H (.o .nilS) []:=⟨by simp,.inl ⟨rfl,rfl⟩⟩
structure GpAt(cells:List AC)(o:Nat)(x:Gp):Prop where
 all:(cells.drop o).take 3=gpC x
 le:o+3<=cells.length
 le1:o+1<=cells.length
 le2:o+1+1<=cells.length
 le3:o+2+1<=cells.length
 f1:(cells.drop o).headD (.b false)=.i .i64 x.1
 f2:(cells.drop (o+1)).headD (.b false)=.o (.str x.2.1)
 f3:(cells.drop (o+2)).headD (.b false)=.b x.2.2
def fN.open{H:Hp}{v:AC}{l:List Gp}(h:fN H v l)(hn:0<l.length):∃id g off cells,v=.o (.sl id g off l.length 3)/\id<H.nx/\rowOf (H.get id) g=some cells/\∀(i:Nat)(x:Gp),l[i]?=some x->GpAt cells (off+i*3) x:=by
 obtain⟨id,g,off,h1,h2,hr⟩:=SlC.pos h hn;have T3:=hr;obtain⟨cells,h3,h6,h7⟩:=hr;refine⟨id,g,off,cells,h1,h2,h3,λi x hx=>?_⟩;obtain⟨cells',k3,k6,k7⟩:=Rd.at (c:=gpC) zt T3 hx;rw[h3]at k3;cases k3
 obtain⟨a,b,c⟩:=aac k7;exact⟨k7,k6,aa,aa,aa,a,b,c⟩
def fN.take{H:Hp}{id g off:Nat}{l:List Gp}(h:fN H (.o (.sl id g off l.length 3)) l){n:Nat}(hn:n<=l.length):fN H (.o (.sl id g off n 3)) (l.take n):=by
 have hl:(l.take n).length=n:=by rw[dM];omega
 refine⟨by rw[oS zt],?_⟩;rcases h.2 with⟨e,_⟩|⟨id',g',off',e,hid,hr⟩
 ·cases e
 cases e
 refine .inr ⟨id,g,off,by rw[hl],hid,?_⟩;have:=hr.part 0 (n*3) aa;rw[List.drop_zero,Nat.add_zero]at this;rw[hl];have e:(l.take n).flatMap gpC=(l.flatMap gpC).take (n*3):=by
  have h1:l.flatMap gpC=(l.take n).flatMap gpC++(l.drop n).flatMap gpC:=by rw[<-iX,sF]
  exact((congrArg (List.take (n*3)) h1).trans (by rw[tw (by rw[oS zt,hl];exact ai _),iy (by rw[oS zt,hl];exact ai _)])).symm
 rw[e];exact this
def tK(x:Gp):Bool:=x.1==0&&(x.2.1==[]&&(x.2.2==false&&true))
def uj(l:List Gp):Bool:=l.any λx=>tK x||x.2.2
def vL(H:Hp)(x:Gp):Con E2 178 [.agg (gpC x)] H (λ_=>False) λr _=>r=.one (.b (tK x)):=by
 refine Con.xw λH=>?_;refine C1.jR 6 [.tmp 2] Tryz.func178 λtm h0=>?_;repeat' first|refine R1.ret ?_|refine R1.exit ?_|refine R1.skip ?_|refine R1.yQ ?_|refine R1.si ?_|refine R1.aJ ?_|refine R1.bT ?_|refine R1.nQ ?_|((first|refine R1.Gn λK hK=>?_|refine R1.sj λK hK=>?_|refine R1.CV ae λK hK=>?_|refine R1.Co ae λK hK=>?_);simp only[qB,aZ,Nat.reduceLT,Nat.reduceEqDiff,Nat.reduceLeDiff,reduceIte,Nat.reduceAdd,Nat.reduceSub,Nat.reduceMul,Int.reduceLT,Int.reduceLE,Int.reduceBEq,aj,h0,gpC,fV,xR,Wd,Fe Uk,zb,zd,za,sJ];apply hK;clear hK K)
 exact⟨_,_,aw (.b (tK x)) (.inr rfl) rfl (by simp only[ak,Nat.reduceEqDiff,reduceIte,tK,id_eq]),(Fr.refl _).new _,λ_=>rfl⟩
def kV(H:Hp)(x:Gp):Con E2 192 [.agg (gpC x)] H (λ_=>False) λr _=>r=.one (.b (tK x)):=by
 refine Con.xw λH=>?_;refine C1.jR 6 [.tmp 2] Tryz.func192 λtm h0=>?_;repeat' first|refine R1.ret ?_|refine R1.exit ?_|refine R1.skip ?_|refine R1.yQ ?_|refine R1.si ?_|refine R1.aJ ?_|refine R1.bT ?_|refine R1.nQ ?_|((first|refine R1.Gn λK hK=>?_|refine R1.sj λK hK=>?_|refine R1.CV ae λK hK=>?_|refine R1.Co ae λK hK=>?_);simp only[qB,aZ,Nat.reduceLT,Nat.reduceEqDiff,Nat.reduceLeDiff,reduceIte,Nat.reduceAdd,Nat.reduceSub,Nat.reduceMul,Int.reduceLT,Int.reduceLE,Int.reduceBEq,aj,h0,gpC,fV,xR,Wd,Fe Uk,zb,zd,za,sJ];apply hK;clear hK K)
 exact⟨_,_,aw (.b (tK x)) (.inr rfl) rfl (by simp only[ak,Nat.reduceEqDiff,reduceIte,tK,id_eq]),(Fr.refl _).new _,λ_=>rfl⟩
def LY(H:Hp)(v:AC)(l:List Gp)(hv:fN H v l)(hL:l.length<=1000000):
  Con E2 155 [.one v] H (λ_=>False) λr _=>r=.one (.b (uj l)):=by
 refine Con.lT (λH=>fN H v l) hv λH hv=>?_;refine C1.jR 18 [.tmp 2] Tryz.func155 λtm h0=>?_;have fin:∀(b:Bool)(A:ag)(H3:Hp),slot A.tm 2=.one (.b b)->A.dfr=[]->Gr H H3->b=uj l->∃w H4,aK E2 [.tmp 2] (.ret,A,H3)=.ok [(w,H4)]/\Gr H H4/\∀_:List Nat,w=.one (.b (uj l)):=λb A H3 h1 h2 h3 h4=>⟨_,H3,aw (.b b) (.inr rfl) h2 h1,h3,λ_=>by rw[h4]⟩;generalize C0:uj l=r0 at fin;refine qW (zDf aj h0 dU hv.len hv.lt) ?_;refine R1.bj λK k1 k2 k3 k4=>?_;refine R1.loop (λk A H1=>∃i:Nat,k=l.length-i/\i<=l.length/\Gr H H1/\uj (l.drop i)=r0/\eQ A.tm 5 6 v (.i .i64 (l.length:Int)) (gU A i (A.nt=18/\A.dfr=[]))) ?_ l.length
  ⟨0,rfl,Nat.zero_le _,Fr.refl _,C0,?_⟩
 ·clear h0 tm;rintro k A H1 ⟨i,rfl,hi,g1,hr,t5,t6,t7,z0,A0⟩;have G7:=hv.gr g1;refine qW (zDe aj t6 t7 z0) ?_;refine qE λKx Ky hx hy=>?_;refine iI (λhc=>hx ?_) (λhc=>hy ?_)
  ·clear hx hy Kx Ky;have B0:i<l.length:=aa;obtain⟨id,g,off,cells,rfl,hid,W0,J0⟩:=G7.open aa;have ex:=aA B0;have M0:=List.drop_eq_getElem_cons B0;generalize l[i]=x at ex M0;have O0:=J0 i x ex;have X1:=bB i;rw[M0,uj,List.any_cons]at hr;refine qV ?_;refine R1.bj λK2 q1 q2 q3 q4=>?_;refine qG (zDm aj t5 t7 z0 jg fV Hy xR (ixC B0) hid W0 (zDd O0.all O0.le dQ)) λK hK=>?_;apply hK;refine R1.gen (λA3 H3=>Gr H1 H3/\H1.nx<H3.nx/\H3.get H1.nx=some (.arr (gpC x) 209 0 0)/\ky A3.tm 4 5 6 (.o (.ptr H1.nx 0 0 3)) (.o (.sl id g off l.length 3)) (.i .i64 (l.length:Int)) (gU A3 i (A3.nt=18/\A3.dfr=[])))
    ⟨((Fr.refl _).new _).mod _ (.inl (ai _)),?_⟩ ?_
   ·exact qZ (zDg t5 t6 t7 z0 A0 dQ)
   clear t5 t6 t7 z0 A0 A;rintro A H3 ⟨g3,n3,rx,t4,t5,t6,t7,z0,A0⟩;refine qG (zDi aj t4 z0 rx n3 fV dQ AH) λK hK=>?_;refine WE.con (vL H3 x) λw H4 g4 hw=>?_;subst hw;have rx:H4.get H1.nx=some (.arr (gpC x) 209 0 0):=by rw[g4.get _ n3 aE];exact rx
   have n4:H1.nx<H4.nx:=ax n3 g4.nx;have g4':=g1.gr (g3.gr g4);cases P':tK x with
   |true=>rw[P',Bool.true_or,Bool.true_or]at hr;refine qS (qA aj z0) ?_;apply hK;refine qY ?_;refine qW z0 ?_;exact q4 _ _ (k4 _ _ (fin true _ _ qp (qd A0) g4' hr))
   |false=>
    rw[P',Bool.false_or]at hr;refine qS (zDi aj z0 t4 rx n4 dQ oR lW) ?_;apply hK;cases hbr:x.2.2 with
    |true=>rw[hbr,Bool.true_or]at hr;refine qY ?_;refine qW z0 ?_;exact q4 _ _ (k4 _ _ (fin true _ _ qp (qd A0) g4' hr))
    |false=>
     rw[hbr,Bool.false_or]at hr;refine qY ?_;refine qW z0 ?_;refine q1 _ _ ?_;refine qW (zDd z0 t7 X1) ?_;refine⟨l.length-(i+1),aa,i+1,rfl,B0,g4',hr,?_,?_,?_,?_,?_⟩
     ·simp only[ak,Nat.reduceEqDiff,reduceIte,t5]
     ·simp only[ak,Nat.reduceEqDiff,reduceIte,t6]
     ·simp only[ak,Nat.reduceEqDiff,reduceIte]
     ·simp only[bq,z0]
     simp only[aM,A0]
  clear hx hy Kx Ky;have U0:i=l.length:=aa;rw[U0,ct]at hr;refine qW z0 ?_;refine k2 _ _ ?_;refine qW z0 ?_;exact fin false _ _ qp (qd A0) g1 hr
 simp only[ak,lj,Nat.reduceEqDiff,reduceIte,bq,aM,h0,and_self,true_and];exact⟨rfl,trivial⟩
def KD(H:Hp)(v:AC)(l:List Gp)(hv:fN H v l)(hL:l.length<=1000000):
  Con E2 181 [.one v] H (λ_=>False) λr _=>r=.one (.b (uj l)):=by
 refine Con.lT (λH=>fN H v l) hv λH hv=>?_;refine C1.jR 22 [.tmp 2] Tryz.func181 λtm h0=>?_;have fin:∀(b:Bool)(A:ag)(H3:Hp),slot A.tm 2=.one (.b b)->A.dfr=[]->Gr H H3->b=uj l->∃w H4,aK E2 [.tmp 2] (.ret,A,H3)=.ok [(w,H4)]/\Gr H H4/\∀_:List Nat,w=.one (.b (uj l)):=λb A H3 h1 h2 h3 h4=>⟨_,H3,aw (.b b) (.inr rfl) h2 h1,h3,λ_=>by rw[h4]⟩;generalize C0:uj l=r0 at fin;refine qW aj ?_;refine R1.bj λK k1 k2 k3 k4=>?_;refine R1.loop (λk A H1=>∃i:Nat,k=l.length-i/\i<=l.length/\Gr H H1/\uj (l.drop i)=r0/\slot A.tm 0=.one v/\iB A i (A.nt=22/\A.dfr=[])) ?_ l.length
  ⟨0,rfl,Nat.zero_le _,Fr.refl _,C0,?_⟩
 ·clear h0 tm;rintro k A H1 ⟨i,rfl,hi,g1,hr,t0,t3,z0,A0⟩;have G7:=hv.gr g1;refine qW (zDh aj t0 t3 z0 dU G7.len G7.lt) ?_;refine qE λKx Ky hx hy=>?_;refine iI (λhc=>hx ?_) (λhc=>hy ?_)
  ·clear hx hy Kx Ky;have B0:i<l.length:=aa;obtain⟨id,g,off,cells,rfl,hid,W0,J0⟩:=G7.open aa;have ex:=aA B0;have M0:=List.drop_eq_getElem_cons B0;generalize l[i]=x at ex M0;have O0:=J0 i x ex;have X1:=bB i;rw[M0,uj,List.any_cons]at hr;refine qV ?_;refine R1.bj λK2 q1 q2 q3 q4=>?_;refine qG (zDm aj t0 t3 z0 jg fV (ixC B0) hid W0 O0.all O0.le nB) λK hK=>?_;refine WE.con (kV H1 x) λw H4 g4 hw=>?_;subst hw;have hid4:id<H4.nx:=ax hid g4.nx;have hgr4:rowOf (H4.get id) g=some cells:=by rw[g4.get _ hid aE];exact W0
   have g4':=g1.gr g4;cases P':tK x with
   |true=>rw[P',Bool.true_or,Bool.true_or]at hr;refine qS (qA aj z0) ?_;apply hK;refine qY ?_;refine qW z0 ?_;exact q4 _ _ (k4 _ _ (fin true _ _ qp (qd A0) g4' hr))
   |false=>
    rw[P',Bool.false_or]at hr;refine qS (zDm aj z0 t0 t3 jg (ixC B0) hid4 hgr4 oR lW O0.f3 O0.le3) ?_;apply hK;cases hbr:x.2.2 with
    |true=>rw[hbr,Bool.true_or]at hr;refine qY ?_;refine qW z0 ?_;exact q4 _ _ (k4 _ _ (fin true _ _ qp (qd A0) g4' hr))
    |false=>
     rw[hbr,Bool.false_or]at hr;refine qY ?_;refine qW z0 ?_;refine q1 _ _ ?_;refine qW (zDd z0 t3 X1) ?_;refine⟨l.length-(i+1),aa,i+1,rfl,B0,g4',hr,?_,?_,?_,?_⟩
     ·simp only[ak,Nat.reduceEqDiff,reduceIte,t0]
     ·simp only[ak,Nat.reduceEqDiff,reduceIte]
     ·simp only[bq,z0]
     simp only[aM,A0]
  clear hx hy Kx Ky;have U0:i=l.length:=aa;rw[U0,ct]at hr;refine qW z0 ?_;refine k2 _ _ ?_;refine qW z0 ?_;exact fin false _ _ qp (qd A0) g1 hr
 simp only[ak,lj,Nat.reduceEqDiff,reduceIte,bq,aM,h0,and_self,true_and];exact⟨rfl,trivial⟩
def Bz(l:List Gp)(s:List UInt8):Bool:=l.any λx=>x.2.1==s
def Yz(H:Hp)(v:AC)(l:List Gp)(s:List UInt8)(hv:fN H v l)(hL:l.length<=1000000):
  Con E2 193 [.one v,.one (.o (.str s))] H (λ_=>False) λr _=>r=.one (.b (Bz l s)):=by
 refine Con.lT (λH=>fN H v l) hv λH hv=>?_;refine C1.fD 19 [.tmp 4] Tryz.func193 λtm h0 h1=>?_;have fin:∀(b:Bool)(A:ag)(H3:Hp),slot A.tm 4=.one (.b b)->A.dfr=[]->Gr H H3->b=Bz l s->∃w H4,aK E2 [.tmp 4] (.ret,A,H3)=.ok [(w,H4)]/\Gr H H4/\∀_:List Nat,w=.one (.b (Bz l s)):=λb A H3 h1 h2 h3 h4=>⟨_,H3,aw (.b b) (.inr rfl) h2 h1,h3,λ_=>by rw[h4]⟩;generalize C0:Bz l s=r0 at fin;refine qW aj ?_;refine R1.bj λK k1 k2 k3 k4=>?_;refine R1.loop (λk A H1=>∃i:Nat,k=l.length-i/\i<=l.length/\Gr H H1/\Bz (l.drop i) s=r0/\eQ A.tm 0 1 v (.o (.str s)) (fu A i (A.nt=19/\A.dfr=[]))) ?_ l.length
  ⟨0,rfl,Nat.zero_le _,Fr.refl _,C0,?_⟩
 ·clear h0 h1 tm;rintro k A H1 ⟨i,rfl,hi,g1,hr,t0,t1,t5,z0,A0⟩;have G7:=hv.gr g1;refine qW (zDh aj t0 t5 z0 dU G7.len G7.lt) ?_;refine qE λKx Ky hx hy=>?_;refine iI (λhc=>hx ?_) (λhc=>hy ?_)
  ·clear hx hy Kx Ky;have B0:i<l.length:=aa;obtain⟨id,g,off,cells,rfl,hid,W0,J0⟩:=G7.open aa;have ex:=aA B0;have M0:=List.drop_eq_getElem_cons B0;generalize l[i]=x at ex M0;have O0:=J0 i x ex;have X1:=bB i;rw[M0,Bz,List.any_cons]at hr;refine qV ?_;refine R1.bj λK2 q1 q2 q3 q4=>?_;by_cases B6:x.2.1=s
   ·rw[beq_iff_eq.2 B6,Bool.true_or]at hr;have cs:=beq_iff_eq.2 B6;refine qW (zDm aj t0 t1 t5 z0 jg mG bS (ixC B0) hid W0 (zDd O0.f2 O0.le2 cs)) ?_;refine qE λKx Ky hx hy=>?_;rw[fF,cs];refine hx ?_;refine qW z0 ?_;exact q4 _ _ (k4 _ _ (fin true _ _ qp (qd A0) g1 hr))
   have cs:(x.2.1==s)=false:=aF B6;rw[cs,Bool.false_or]at hr;refine qW (zDm aj t0 t1 t5 z0 jg mG bS (ixC B0) hid W0 (zDd O0.f2 O0.le2 cs)) ?_;refine qE λKx Ky hx hy=>?_;rw[fF,cs];refine hy ?_;refine qW z0 ?_;refine q1 _ _ ?_;refine qW (zDd z0 t5 X1) ?_;refine⟨l.length-(i+1),aa,i+1,rfl,B0,g1,hr,?_,?_,?_,?_,?_⟩
   ·simp only[ak,Nat.reduceEqDiff,reduceIte,t0]
   ·simp only[ak,Nat.reduceEqDiff,reduceIte,t1]
   ·simp only[ak,Nat.reduceEqDiff,reduceIte]
   ·simp only[bq,z0]
   simp only[aM,A0]
  clear hx hy Kx Ky;have U0:i=l.length:=aa;rw[U0,ct]at hr;refine qW z0 ?_;refine k2 _ _ ?_;refine qW z0 ?_;exact fin false _ _ qp (qd A0) g1 hr
 simp only[ak,lj,Nat.reduceEqDiff,reduceIte,bq,aM,h0,h1,and_self,true_and];exact⟨rfl,trivial⟩
def Hk{E:Env}{r:Option Nat}{z:Code}{A:ag}{H:Hp}{Q:au->ag->Hp->Prop}{i:Nat}(h:R1 E r z A H Q):R1 E r (.seq (.label i) z) A H Q:=R1.seq ⟨0,_,_,_,rfl,h⟩
def aaY(acc:List Gp):Bool:=acc.getLast?.any tK
def gP(less:Bool):List Gp->List Gp->Int
 |_,[]=>0
 |acc,x::l=>
  if tK x=true then
   if less=true then 24 else if aaY acc=true then 5 else gP less (acc++[x]) l
  else if nmB x.2.1=false then 20 else if x.1<1\/(99:Int)<x.1 then 21 else if Bz acc x.2.1=true then 22 else if(less&&x.2.2)=true then 24 else gP less (acc++[x]) l
def Em{l:List Gp}{i:Nat}{y:Gp}(hi:0<i)(hy:l[i-1]?=some y):aaY (l.take i)=tK y:=by
 have h:(l.take i).getLast?=some y:=by have B0:=(List.getElem?_eq_some_iff.1 hy).1;rw[Ak,dM,wW aa,mW,ad aa];exact hy
 unfold aaY;rw[h];rfl
def sa(H:Hp)(v:AC)(l:List Gp)(less:Bool)(hv:fN H v l)(hL:l.length<=1000000):
  Con E2 168 [.one v,.one (.b less)] H (λ_=>False) λr _=>r=.one (.i .i64 (gP less [] l)):=by
 refine Con.lT (λH=>fN H v l) hv λH hv=>?_;refine C1.fD 69 [.tmp 4] Tryz.func168 λtm h0 h1=>?_;have fin:=rC E2 H 4 (gP less [] l);generalize C0:gP less [] l=r0 at fin;refine qW (zDf aj h0 dU hv.len hv.lt) ?_;refine R1.scope (Hk ?_);refine qW (zDf aj h0 dU hv.len hv.lt) ?_;refine R1.bj λK k1 k2 k3 k4=>?_;refine R1.loop (λk A H1=>∃i:Nat,k=l.length-i/\i<=l.length/\Gr H H1/\gP less (l.take i) (l.drop i)=r0/\ky A.tm 0 1 9 v (.b less) v (lI A l.length (jt A i (A.nt=69/\A.dfr=[])))) ?_ l.length
  ⟨0,rfl,Nat.zero_le _,Fr.refl _,C0,?_⟩
 ·clear h0 h1 tm;rintro k A H1 ⟨i,rfl,hi,g1,hr,t0,t1,t9,t10,t11,z0,A0⟩;have G7:=hv.gr g1;refine qW (zDe aj t10 t11 z0) ?_;refine qE λKx Ky hx hy=>?_;refine iI (λhc=>hx ?_) (λhc=>hy ?_)
  ·clear hx hy Kx Ky;have B0:i<l.length:=aa;obtain⟨id,g,off,cells,rfl,hid,W0,J0⟩:=G7.open aa;have ex:=aA B0;have M0:=List.drop_eq_getElem_cons B0;have Y1:=cK B0;generalize l[i]=x at ex M0 Y1;have O0:=J0 i x ex;have X1:=bB i;rw[M0,gP]at hr;refine qV ?_;refine R1.bj λK2 q1 q2 q3 q4=>?_;refine qG (zDm aj t9 t11 z0 jg fV Hy xR (ixC B0) hid W0 (zDd O0.all O0.le dQ)) λK hK=>?_;apply hK;refine R1.gen (λA3 H3=>Gr H1 H3/\H1.nx<H3.nx/\H3.get H1.nx=some (.arr (gpC x) 209 0 0)/\eQ A3.tm 0 1 (.o (.sl id g off l.length 3)) (.b less) (fu A3 i (eQ A3.tm 6 9 (.o (.ptr H1.nx 0 0 3)) (.o (.sl id g off l.length 3)) (lI A3 l.length (jt A3 i (A3.nt=69/\A3.dfr=[]))))))
    ⟨((Fr.refl _).new _).mod _ (.inl (ai _)),?_⟩ ?_
   ·exact qZ (zDi t0 t1 t9 t10 t11 z0 A0 dQ)
   clear t0 t1 t9 t10 t11 z0 A0 A;rintro A H3 ⟨g3,n3,rx,t0,t1,t5,t6,t9,t10,t11,z0,A0⟩;have next:∀(A2:ag)(H2:Hp),Gr H3 H2->gP less (l.take (i+1)) (l.drop (i+1))=r0->slot A2.tm 0=slot A.tm 0->slot A2.tm 1=slot A.tm 1->slot A2.tm 9=slot A.tm 9->slot A2.tm 10=slot A.tm 10->slot A2.tm 11=slot A.tm 11->A2.nt=69->A2.dfr=[] ->
     K2 .normal A2 H2/\K2 (.exit 1) A2 H2:=by
    intro A2 H2 g2 hr s0 s1 s9 s10 s11 hn hd;have g2':Gr H H2:=g1.gr (g3.gr g2);rw[t0]at s0;rw[t1]at s1;rw[t9]at s9;rw[t10]at s10;rw[t11]at s11;refine⟨q1 _ _ ?_,q2 _ _ ?_⟩
    ·refine qW (zDd hn s11 X1) ?_;refine⟨l.length-(i+1),aa,i+1,rfl,B0,g2',hr,?_,?_,?_,?_,?_,?_,?_⟩
     ·simp only[ak,Nat.reduceEqDiff,reduceIte,s0]
     ·simp only[ak,Nat.reduceEqDiff,reduceIte,s1]
     ·simp only[ak,Nat.reduceEqDiff,reduceIte,s9]
     ·simp only[ak,Nat.reduceEqDiff,reduceIte,s10]
     ·simp only[ak,Nat.reduceEqDiff,reduceIte]
     ·simp only[bq,hn]
     simp only[aM,hd]
    refine qW (zDd hn s11 X1) ?_;refine⟨l.length-(i+1),aa,i+1,rfl,B0,g2',hr,?_,?_,?_,?_,?_,?_,?_⟩
    ·simp only[ak,Nat.reduceEqDiff,reduceIte,s0]
    ·simp only[ak,Nat.reduceEqDiff,reduceIte,s1]
    ·simp only[ak,Nat.reduceEqDiff,reduceIte,s9]
    ·simp only[ak,Nat.reduceEqDiff,reduceIte,s10]
    ·simp only[ak,Nat.reduceEqDiff,reduceIte]
    ·simp only[bq,hn]
    simp only[aM,hd]
   clear q1 q2;rw[<-Y1]at hr;refine R1.bj λK3 p1 p2 p3 p4=>?_;refine qG (zDi aj t6 z0 rx n3 fV dQ AH) λK hK=>?_;refine WE.con (vL H3 x) λw H4 g4 hw=>?_;subst hw;have rx4:H4.get H1.nx=some (.arr (gpC x) 209 0 0):=by rw[g4.get _ n3 aE];exact rx
   have n4:H1.nx<H4.nx:=ax n3 g4.nx;have g4':=g1.gr (g3.gr g4);cases P':tK x with
   |true=>
    rw[ad P']at hr;refine qS (zDd aj z0 t1) ?_;apply hK;cases less with
    |true=>rw[ad rfl]at hr;refine qY ?_;refine qW z0 ?_;exact p4 _ _ (q4 _ _ (k4 _ _ (fin 24 _ _ qp (qd A0) g4' hr)))
    |false=>
     rw[ab zA8]at hr;refine qY ?_;refine qG (zDi aj t6 z0 rx4 n4 fV dQ AH) λK hK=>?_;refine WE.con (vL H4 x) λw H5 g5 hw=>?_;subst hw;have g35:Gr H3 H5:=g4.gr g5;have g5':Gr H H5:=g4'.gr g5;refine qS (zDd aj z0 P') ?_;apply hK;refine qY ?_;by_cases A6:i=0
     ·have c0:((0:Int)<(i:Int))=False:=bh aa;rw[A6,List.take_zero,ab (by exact zA8),<-A6]at hr;refine qW (zDe aj t5 z0 c0) ?_;refine qY ?_;refine qV ?_;exact p3 1 _ _ aU (next _ _ g35 hr qp qp qp qp qp (by simp only[bq,z0]) (qd A0)).2
     have c0:((0:Int)<(i:Int))=True:=bH aa;have Y2:i-1<l.length:=aa;have ey:=aA Y2;have hgpp:=Em aa ey;generalize l[i-1]=y at ey hgpp;have J4:=J0 (i-1) y ey;have O3:IntKind.i64.wrap ((i:Int)-1)=((i-1:Nat):Int):=by rw[gE aa aa];omega
     have hid5:id<H5.nx:=ax hid (g3.gr g35).nx;have hgr5:rowOf (H5.get id) g=some cells:=by rw[(g3.gr g35).get _ hid aE];exact W0
     rw[hgpp]at hr;refine qG (zDm aj t0 t5 z0 c0 O3 jg fV (ixC Y2) hid5 hgr5 (zDe J4.all J4.le dQ AH)) λK hK=>?_;refine WE.con (vL H5 y) λw H6 g6 hw=>?_;subst hw;have g36:Gr H3 H6:=g35.gr g6;have g6':Gr H H6:=g5'.gr g6;cases hgy:tK y with
     |true=>rw[hgy,ad rfl]at hr;refine qS (qA aj z0) ?_;apply hK;refine qY ?_;refine qW z0 ?_;exact p4 _ _ (q4 _ _ (k4 _ _ (fin 5 _ _ qp (qd A0) g6' hr)))
     |false=>rw[hgy,ab zA8]at hr;refine qS (qA aj z0) ?_;apply hK;refine qY ?_;refine qV ?_;exact p3 1 _ _ aU (next _ _ g36 hr qp qp qp qp qp (by simp only[bq,z0]) (qd A0)).2
   |false=>
    rw[ab (by rw[P'];exact zA8)]at hr;refine qS (zDd aj z0 t1) ?_;apply hK;refine qY ?_;refine qG (zDi aj t6 z0 rx4 n4 fV dQ AH) λK hK=>?_;refine WE.con (vL H4 x) λw H5 g5 hw=>?_;subst hw;have rx5:H5.get H1.nx=some (.arr (gpC x) 209 0 0):=by rw[g5.get _ n4 aE];exact rx4
    have n5:H1.nx<H5.nx:=ax n4 g5.nx;have g35:Gr H3 H5:=g4.gr g5;have g5':Gr H H5:=g4'.gr g5;refine qS (zDd aj z0 P') ?_;apply hK;refine qY ?_;refine qG (zDj aj t6 z0 rx5 n5 mG bS dQ oI) λK hK=>?_;refine WE.fJ (rK x.2.1) λH6 g6 nn6 e6=>?_;have rx6:H6.get H1.nx=some (.arr (gpC x) 209 0 0):=(e6 _).trans rx5;have n6:H1.nx<H6.nx:=by rw[nn6];exact n5
    have g36:Gr H3 H6:=g35.gr g6;have g6':Gr H H6:=g5'.gr g6;cases Y_:nmB x.2.1 with
    |false=>rw[ad Y_]at hr;refine qS (qA aj z0) ?_;apply hK;refine qY ?_;refine qW z0 ?_;exact p4 _ _ (q4 _ _ (k4 _ _ (fin 20 _ _ qp (qd A0) g6' hr)))
    |true=>
     rw[ab (by rw[Y_];decide)]at hr;refine qS (qA aj z0) ?_;apply hK;refine qY ?_;by_cases J3:x.1<1
     ·have c1:(x.1<1)=True:=bH J3;rw[ad (.inl J3)]at hr;refine qW (zDj aj t6 z0 rx6 n6 oQ bF dQ c1) ?_;refine qY ?_;refine qW z0 ?_;exact p4 _ _ (q4 _ _ (k4 _ _ (fin 21 _ _ qp (qd A0) g6' hr)))
     have c1:(x.1<1)=False:=bh J3;by_cases W3:(99:Int)<x.1
     ·have c2:((99:Int)<x.1)=True:=bH W3;rw[ad (.inr W3)]at hr;refine qW (zDk aj t6 z0 rx6 n6 oQ bF dQ c1 c2) ?_;refine qY ?_;refine qW z0 ?_;exact p4 _ _ (q4 _ _ (k4 _ _ (fin 21 _ _ qp (qd A0) g6' hr)))
     have c2:((99:Int)<x.1)=False:=bh W3;rw[ab (λh=>h.elim J3 W3)]at hr;refine qW (zDk aj t6 z0 rx6 n6 oQ bF dQ c1 c2) ?_;refine qY ?_;refine qW z0 ?_;refine p1 _ _ ?_;have hid6:id<H6.nx:=ax hid (g3.gr g36).nx;have hgr6:rowOf (H6.get id) g=some cells:=by rw[(g3.gr g36).get _ hid aE];exact W0
     generalize hrb:Bz (l.take i) x.2.1=rb at hr;have J7:(l.take i).length=i:=by rw[dM];omega
     refine qG (zDi aj t0 t5 z0 jg dU (slH (mY B0)) hid6) λK hK=>?_;apply hK;refine R1.bj λK4 u1 u2 u3 u4=>?_;refine R1.loop (λk A2 H2=>∃j:Nat,k=i-j/\j<=i/\Gr H6 H2/\Bz ((l.take i).drop j) x.2.1=rb/\LC A2.tm 0 1 6 9 (.o (.sl id g off l.length 3)) (.b less) (.o (.ptr H1.nx 0 0 3)) (.o (.sl id g off l.length 3)) (lI A2 l.length (jt A2 i (oA A2 51 52 53 (.o (.sl id g off i 3)) (.i .i64 (i:Int)) (.i .i64 (j:Int)) 69 [])))) ?_ i
      ⟨0,rfl,Nat.zero_le _,Fr.refl _,by rw[List.drop_zero];exact hrb,?_⟩
     ·rintro k A2 H2 ⟨j,rfl,hj,g2,O4,s0,s1,s6,s9,s10,s11,s51,s52,s53,hn,hd⟩;have rx2:H2.get H1.nx=some (.arr (gpC x) 209 0 0):=by rw[g2.get _ n6 aE];exact rx6
      have n2:H1.nx<H2.nx:=ax n6 g2.nx;have hid2:id<H2.nx:=ax hid6 g2.nx;have S9:rowOf (H2.get id) g=some cells:=by rw[g2.get _ hid6 aE];exact hgr6
      have g2':Gr H H2:=g6'.gr g2;refine qW (zDe aj s52 s53 hn) ?_;refine qE λKx Ky hx hy=>?_;refine iI (λhc=>hx ?_) (λhc=>hy ?_)
      ·clear hx hy Kx Ky;have hjt:j<i:=aa;have hjt':j<(l.take i).length:=aa;have hdr2:(l.take i).drop j=(l.take i)[j]::(l.take i).drop (j+1):=List.drop_eq_getElem_cons hjt';have ey:l[j]?=some (l.take i)[j]:=by rw[List.getElem_take];exact aA aa
       generalize(l.take i)[j]=y at hdr2 ey
       have J4:=J0 j y ey;have hw4:=bB j;rw[hdr2,Bz,List.any_cons]at O4;refine qV ?_;refine R1.bj λK5 w1 w2 w3 w4=>?_;refine qG (zDm aj s51 s53 hn jg fV Hy xR (ixC hjt) hid2 S9 (zDd J4.all J4.le dQ)) λK hK=>?_;apply hK;refine R1.gen (λA3 H7=>Gr H2 H7/\H2.nx<H7.nx/\H7.get H2.nx=some (.arr (gpC y) 209 0 0)/\XI A3.tm 8 0 1 6 9 (.o (.ptr H2.nx 0 0 3)) (.o (.sl id g off l.length 3)) (.b less) (.o (.ptr H1.nx 0 0 3)) (.o (.sl id g off l.length 3)) (lI A3 l.length (jt A3 i (oA A3 51 52 53 (.o (.sl id g off i 3)) (.i .i64 (i:Int)) (.i .i64 (j:Int)) 69 []))))
        ⟨((Fr.refl _).new _).mod _ (.inl (ai _)),?_⟩ ?_
       ·exact qZ (zDm s0 s1 s6 s9 s10 s11 s51 s52 s53 hn hd dQ)
       clear s0 s1 s6 s9 s10 s11 s51 s52 s53 hn hd A2;rintro A2 H7 ⟨g7,n7,ry,s8,s0,s1,s6,s9,s10,s11,s51,s52,s53,hn,hd⟩;have rx7:H7.get H1.nx=some (.arr (gpC x) 209 0 0):=by rw[g7.get _ n2 aE];exact rx2
       have n17:H1.nx<H7.nx:=ax n2 g7.nx;have g7':Gr H H7:=g2'.gr g7;cases cs:(y.2.1==x.2.1)with
       |true=>rw[cs,Bool.true_or]at O4;rw[<-O4,ad rfl]at hr;refine qW (zDl aj s8 s6 hn ry n7 rx7 n17 dQ mG bS) ?_;refine qE λKx Ky hx hy=>?_;rw[fF,cs];refine hx ?_;refine qW hn ?_;exact w4 _ _ (u4 _ _ (q4 _ _ (k4 _ _ (fin 22 _ _ qp (by simp only[aM,hd]) g7' hr))))
       |false=>
        rw[cs,Bool.false_or]at O4;refine qW (zDl aj s8 s6 hn ry n7 rx7 n17 dQ mG bS) ?_;refine qE λKx Ky hx hy=>?_;rw[fF,cs];refine hy ?_;refine qW hn ?_;refine w1 _ _ ?_;refine qW (zDd hn s53 hw4) ?_;refine⟨i-(j+1),aa,j+1,rfl,hjt,g2.gr g7,O4,?_,?_,?_,?_,?_,?_,?_,?_,?_,?_,?_⟩
        ·simp only[ak,Nat.reduceEqDiff,reduceIte,s0]
        ·simp only[ak,Nat.reduceEqDiff,reduceIte,s1]
        ·simp only[ak,Nat.reduceEqDiff,reduceIte,s6]
        ·simp only[ak,Nat.reduceEqDiff,reduceIte,s9]
        ·simp only[ak,Nat.reduceEqDiff,reduceIte,s10]
        ·simp only[ak,Nat.reduceEqDiff,reduceIte,s11]
        ·simp only[ak,Nat.reduceEqDiff,reduceIte,s51]
        ·simp only[ak,Nat.reduceEqDiff,reduceIte,s52]
        ·simp only[ak,Nat.reduceEqDiff,reduceIte]
        ·simp only[bq,hn]
        simp only[aM,hd]
      clear hx hy Kx Ky;have hje:(l.take i).drop j=[]:=HN aa;rw[hje]at O4;rw[<-O4,ab (by exact zA8)]at hr;refine qW hn ?_;refine u2 _ _ ?_;cases less with
      |false=>rw[ab (by exact zA8)]at hr;refine qW (zDd aj s1 hn) ?_;refine qY ?_;refine qW hn ?_;exact(next _ _ (g36.gr g2) hr (by simp only[ak,Nat.reduceEqDiff,reduceIte,s0,t0]) (by simp only[ak,Nat.reduceEqDiff,reduceIte,s1,t1]) (by simp only[ak,Nat.reduceEqDiff,reduceIte,s9,t9]) (by simp only[ak,Nat.reduceEqDiff,reduceIte,s10,t10]) (by simp only[ak,Nat.reduceEqDiff,reduceIte,s11,t11]) (by simp only[bq,hn]) (by simp only[aM,hd])).1
      |true=>
       cases hbr:x.2.2 with
       |true=>rw[hbr,ad (by rfl)]at hr;refine qW (zDk aj s1 s6 hn rx2 n2 dQ oR lW hbr) ?_;refine qY ?_;refine qW hn ?_;exact q4 _ _ (k4 _ _ (fin 24 _ _ qp (by simp only[aM,hd]) g2' hr))
       |false=>rw[hbr,ab (by exact zA8)]at hr;refine qW (zDk aj s1 s6 hn rx2 n2 dQ oR lW hbr) ?_;refine qY ?_;refine qW hn ?_;exact(next _ _ (g36.gr g2) hr (by simp only[ak,Nat.reduceEqDiff,reduceIte,s0,t0]) (by simp only[ak,Nat.reduceEqDiff,reduceIte,s1,t1]) (by simp only[ak,Nat.reduceEqDiff,reduceIte,s9,t9]) (by simp only[ak,Nat.reduceEqDiff,reduceIte,s10,t10]) (by simp only[ak,Nat.reduceEqDiff,reduceIte,s11,t11]) (by simp only[bq,hn]) (by simp only[aM,hd])).1
     simp only[ak,lj,Nat.reduceEqDiff,reduceIte,bq,aM,t0,t1,t6,t9,t10,t11,z0,A0,and_self,true_and];exact⟨rfl,trivial⟩
  clear hx hy Kx Ky;have U0:i=l.length:=aa;rw[U0,ct,gP]at hr;refine qW z0 ?_;refine k2 _ _ ?_;refine qW z0 ?_;exact fin 0 _ _ qp (qd A0) g1 hr
 simp only[ak,lj,Nat.reduceEqDiff,reduceIte,bq,aM,h0,h1,and_self,true_and];exact⟨rfl,trivial⟩
def yL(H:Hp)(v:AC)(l:List Gp)(less:Bool)(hv:fN H v l)(hL:l.length<=1000000):
  Con E2 180 [.one v,.one (.b less)] H (λ_=>False) λr _=>r=.one (.i .i64 (gP less [] l)):=by
 refine Con.lT (λH=>fN H v l) hv λH hv=>?_;refine C1.fD 68 [.tmp 4] Tryz.func180 λtm h0 h1=>?_;have fin:=rC E2 H 4 (gP less [] l);generalize C0:gP less [] l=r0 at fin;refine qW aj ?_;refine R1.bj λK k1 k2 k3 k4=>?_;refine R1.loop (λk A H1=>∃i:Nat,k=l.length-i/\i<=l.length/\Gr H H1/\gP less (l.take i) (l.drop i)=r0/\eQ A.tm 0 1 v (.b less) (fu A i (A.nt=68/\A.dfr=[]))) ?_ l.length
  ⟨0,rfl,Nat.zero_le _,Fr.refl _,C0,?_⟩
 ·clear h0 h1 tm;rintro k A H1 ⟨i,rfl,hi,g1,hr,t0,t1,t5,z0,A0⟩;have G7:=hv.gr g1;refine qW (zDh aj t0 t5 z0 dU G7.len G7.lt) ?_;refine qE λKx Ky hx hy=>?_;refine iI (λhc=>hx ?_) (λhc=>hy ?_)
  ·clear hx hy Kx Ky;have B0:i<l.length:=aa;obtain⟨id,g,off,cells,rfl,hid,W0,J0⟩:=G7.open aa;have ex:=aA B0;have M0:=List.drop_eq_getElem_cons B0;have Y1:=cK B0;generalize l[i]=x at ex M0 Y1;have O0:=J0 i x ex;have X1:=bB i;rw[M0,gP]at hr;refine qV ?_;refine R1.bj λK2 q1 q2 q3 q4=>?_;refine qG (zDm aj t0 t5 z0 jg fV Hy xR (ixC B0) hid W0 (zDd O0.all O0.le dQ)) λK hK=>?_;apply hK;refine R1.gen (λA3 H3=>Gr H1 H3/\H1.nx<H3.nx/\H3.get H1.nx=some (.arr (gpC x) 209 0 0)/\eQ A3.tm 0 1 (.o (.sl id g off l.length 3)) (.b less) (fu A3 i (eO A3 6 (.o (.ptr H1.nx 0 0 3)) 68 [])))
    ⟨((Fr.refl _).new _).mod _ (.inl (ai _)),?_⟩ ?_
   ·exact qZ (zDg t0 t1 t5 z0 A0 dQ)
   clear t0 t1 t5 z0 A0 A;rintro A H3 ⟨g3,n3,rx,t0,t1,t5,t6,z0,A0⟩;have next:∀(A2:ag)(H2:Hp),Gr H3 H2->gP less (l.take (i+1)) (l.drop (i+1))=r0->slot A2.tm 0=slot A.tm 0->slot A2.tm 1=slot A.tm 1->slot A2.tm 5=slot A.tm 5->A2.nt=68->A2.dfr=[] ->
     K2 .normal A2 H2:=by
    intro A2 H2 g2 hr s0 s1 s5 hn hd;have g2':Gr H H2:=g1.gr (g3.gr g2);rw[t0]at s0;rw[t1]at s1;rw[t5]at s5;refine q1 _ _ ?_;refine qW (zDd hn s5 X1) ?_;refine⟨l.length-(i+1),aa,i+1,rfl,B0,g2',hr,?_,?_,?_,?_,?_⟩
    ·simp only[ak,Nat.reduceEqDiff,reduceIte,s0]
    ·simp only[ak,Nat.reduceEqDiff,reduceIte,s1]
    ·simp only[ak,Nat.reduceEqDiff,reduceIte]
    ·simp only[bq,hn]
    simp only[aM,hd]
   clear q1 q2;rw[<-Y1]at hr;refine R1.lS λK3 p1 p2 p3 p4=>?_;refine qG (zDi aj t6 z0 rx n3 fV dQ nB) λK hK=>?_;refine WE.con (kV H3 x) λw H4 g4 hw=>?_;subst hw;have rx4:H4.get H1.nx=some (.arr (gpC x) 209 0 0):=by rw[g4.get _ n3 aE];exact rx
   have n4:H1.nx<H4.nx:=ax n3 g4.nx;have g4':=g1.gr (g3.gr g4);cases P':tK x with
   |true=>
    rw[ad P']at hr;refine qS (zDd aj z0 t1) ?_;apply hK;cases less with
    |true=>rw[ad rfl]at hr;refine qY ?_;refine qW z0 ?_;exact p4 _ _ (q4 _ _ (k4 _ _ (fin 24 _ _ qp (qd A0) g4' hr)))
    |false=>
     rw[ab zA8]at hr;refine qY ?_;refine qG (zDi aj t6 z0 rx4 n4 fV dQ nB) λK hK=>?_;refine WE.con (kV H4 x) λw H5 g5 hw=>?_;subst hw;have rx5:H5.get H1.nx=some (.arr (gpC x) 209 0 0):=by rw[g5.get _ n4 aE];exact rx4
     have n5:H1.nx<H5.nx:=ax n4 g5.nx;have g35:Gr H3 H5:=g4.gr g5;have g5':Gr H H5:=g4'.gr g5;by_cases A6:i=0
     ·have c0:((0:Int)<(i:Int))=False:=bh aa;rw[A6,List.take_zero,ab (by exact zA8),<-A6]at hr;refine qS (zDf aj t5 z0 P' c0) ?_;apply hK;refine qY ?_;refine qG (zDi aj t6 z0 rx5 n5 fV dQ nB) λK hK=>?_;refine WE.con (kV H5 x) λw H6 g6 hw=>?_;subst hw;have g36:Gr H3 H6:=g35.gr g6;refine qS (zDd aj z0 P') ?_;apply hK;refine qY ?_;refine qV ?_;exact p1 _ _ (next _ _ g36 hr qp qp qp (by simp only[bq,z0]) (qd A0))
     have c0:((0:Int)<(i:Int))=True:=bH aa;have Y2:i-1<l.length:=aa;have ey:=aA Y2;have hgpp:=Em aa ey;generalize l[i-1]=y at ey hgpp;have J4:=J0 (i-1) y ey;have O3:IntKind.i64.wrap ((i:Int)-1)=((i-1:Nat):Int):=by rw[gE aa aa];omega
     have hid5:id<H5.nx:=ax hid (g3.gr g35).nx;have hgr5:rowOf (H5.get id) g=some cells:=by rw[(g3.gr g35).get _ hid aE];exact W0
     rw[hgpp]at hr;refine qS (zDm aj t0 t5 z0 P' c0 O3 jg fV (ixC Y2) hid5 (zDf hgr5 J4.all J4.le dQ nB)) ?_;refine WE.con (kV H5 y) λw H6 g6 hw=>?_;subst hw;have rx6:H6.get H1.nx=some (.arr (gpC x) 209 0 0):=by rw[g6.get _ n5 aE];exact rx5
     have n6:H1.nx<H6.nx:=ax n5 g6.nx;have g36:Gr H3 H6:=g35.gr g6;have g6':Gr H H6:=g5'.gr g6;cases hgy:tK y with
     |true=>rw[hgy,ad rfl]at hr;refine qS (qA aj z0) ?_;apply hK;refine qY ?_;refine qW z0 ?_;exact p4 _ _ (q4 _ _ (k4 _ _ (fin 5 _ _ qp (qd A0) g6' hr)))
     |false=>rw[hgy,ab zA8]at hr;refine qS (qA aj z0) ?_;apply hK;refine qY ?_;refine qG (zDi aj t6 z0 rx6 n6 fV dQ nB) λK hK=>?_;refine WE.con (kV H6 x) λw H7 g7 hw=>?_;subst hw;have g37:Gr H3 H7:=g36.gr g7;refine qS (zDd aj z0 P') ?_;apply hK;refine qY ?_;refine qV ?_;exact p1 _ _ (next _ _ g37 hr qp qp qp (by simp only[bq,z0]) (qd A0))
   |false=>
    rw[ab (by rw[P'];exact zA8)]at hr;refine qS (zDd aj z0 t1) ?_;apply hK;refine qY ?_;refine qG (zDi aj t6 z0 rx4 n4 fV dQ nB) λK hK=>?_;refine WE.con (kV H4 x) λw H5 g5 hw=>?_;subst hw;have rx5:H5.get H1.nx=some (.arr (gpC x) 209 0 0):=by rw[g5.get _ n4 aE];exact rx4
    have n5:H1.nx<H5.nx:=ax n4 g5.nx;have g35:Gr H3 H5:=g4.gr g5;have g5':Gr H H5:=g4'.gr g5;refine qS (zDd aj z0 P') ?_;apply hK;refine qY ?_;refine qG (zDi aj t6 z0 rx5 n5 fV dQ nB) λK hK=>?_;refine WE.con (kV H5 x) λw H8 g8 hw=>?_;subst hw;have rx8:H8.get H1.nx=some (.arr (gpC x) 209 0 0):=by rw[g8.get _ n5 aE];exact rx5
    have n8:H1.nx<H8.nx:=ax n5 g8.nx;have g38:Gr H3 H8:=g35.gr g8;have g8':Gr H H8:=g5'.gr g8;refine qS (zDd aj z0 P') ?_;apply hK;refine qY ?_;refine qG (zDj aj t6 z0 rx8 n8 mG bS dQ my) λK hK=>?_;refine WE.con (kW H8 x.2.1) λw H6 g6 hw=>?_;subst hw;have rx6:H6.get H1.nx=some (.arr (gpC x) 209 0 0):=by rw[g6.get _ n8 aE];exact rx8
    have n6:H1.nx<H6.nx:=ax n8 g6.nx;have g36:Gr H3 H6:=g38.gr g6;have g6':Gr H H6:=g8'.gr g6;cases Y_:nmB x.2.1 with
    |false=>rw[ad Y_]at hr;refine qS (qA aj z0) ?_;apply hK;refine qY ?_;refine qW z0 ?_;exact p4 _ _ (q4 _ _ (k4 _ _ (fin 20 _ _ qp (qd A0) g6' hr)))
    |true=>
     rw[ab (by rw[Y_];decide)]at hr;refine qS (qA aj z0) ?_;apply hK;refine qY ?_;by_cases J3:x.1<1
     ·have c1:(x.1<1)=True:=bH J3;rw[ad (.inl J3)]at hr;refine qW (zDj aj t6 z0 rx6 n6 oQ bF dQ c1) ?_;refine qY ?_;refine qW z0 ?_;exact p4 _ _ (q4 _ _ (k4 _ _ (fin 21 _ _ qp (qd A0) g6' hr)))
     have c1:(x.1<1)=False:=bh J3;by_cases W3:(99:Int)<x.1
     ·have c2:((99:Int)<x.1)=True:=bH W3;rw[ad (.inr W3)]at hr;refine qW (zDk aj t6 z0 rx6 n6 oQ bF dQ c1 c2) ?_;refine qY ?_;refine qW z0 ?_;exact p4 _ _ (q4 _ _ (k4 _ _ (fin 21 _ _ qp (qd A0) g6' hr)))
     have c2:((99:Int)<x.1)=False:=bh W3;rw[ab (λh=>h.elim J3 W3)]at hr;have hid6:id<H6.nx:=ax hid (g3.gr g36).nx;have hgr6:rowOf (H6.get id) g=some cells:=by rw[(g3.gr g36).get _ hid aE];exact W0
     have hvt:fN H6 (.o (.sl id g off i 3)) (l.take i):=(G7.gr (g3.gr g36)).take (mY B0);refine qG (zDk aj t6 z0 rx6 n6 oQ bF dQ c1 c2) λK hK=>?_;apply hK;refine qY ?_;refine qG (zDm aj t0 t5 t6 z0 jg (slH (mY B0)) hid6 rx6 n6 mG (zDd bS dQ aaE)) λK hK=>?_;refine WE.con (Yz H6 _ (l.take i) x.2.1 hvt (by rw[dM];omega)) λw H7 g7 hw=>?_;subst hw;have rx7:H7.get H1.nx=some (.arr (gpC x) 209 0 0):=by rw[g7.get _ n6 aE];exact rx6
     have n7:H1.nx<H7.nx:=ax n6 g7.nx;have g37:Gr H3 H7:=g36.gr g7;have g7':Gr H H7:=g6'.gr g7;refine qS (qA aj z0) ?_;apply hK;cases hhd:Bz (l.take i) x.2.1 with
     |true=>rw[hhd,ad rfl]at hr;refine qY ?_;refine qW z0 ?_;exact p4 _ _ (q4 _ _ (k4 _ _ (fin 22 _ _ qp (qd A0) g7' hr)))
     |false=>
      rw[hhd,ab zA8]at hr;refine qY ?_;cases less with
      |false=>rw[ab (by exact zA8)]at hr;refine qW (zDd aj t1 z0) ?_;refine qY ?_;refine qW z0 ?_;exact p1 _ _ (next _ _ g37 hr qp qp qp (by simp only[bq,z0]) (qd A0))
      |true=>
       cases hbr:x.2.2 with
       |true=>rw[hbr,ad (by rfl)]at hr;refine qW (zDk aj t1 t6 z0 rx7 n7 dQ oR lW hbr) ?_;refine qY ?_;refine qW z0 ?_;exact p4 _ _ (q4 _ _ (k4 _ _ (fin 24 _ _ qp (qd A0) g7' hr)))
       |false=>rw[hbr,ab (by exact zA8)]at hr;refine qW (zDk aj t1 t6 z0 rx7 n7 dQ oR lW hbr) ?_;refine qY ?_;refine qW z0 ?_;exact p1 _ _ (next _ _ g37 hr qp qp qp (by simp only[bq,z0]) (qd A0))
  clear hx hy Kx Ky;have U0:i=l.length:=aa;rw[U0,ct,gP]at hr;refine qW z0 ?_;refine k2 _ _ ?_;refine qW z0 ?_;exact fin 0 _ _ qp (qd A0) g1 hr
 simp only[ak,lj,Nat.reduceEqDiff,reduceIte,bq,aM,h0,h1,and_self,true_and];exact⟨rfl,trivial⟩
abbrev Nm:=List Gp×List Gp
def kN(x:Nm):Int:=
 if(24:Int)<x.1.length\/(24:Int)<x.2.length then 3 else if x.1.length=0 then 5 else
 if gP false [] x.1≠0 then gP false [] x.1 else if gP true [] x.2≠0 then gP true [] x.2 else
 if(0<x.2.length/\uj x.1=true)then 24 else 0
def GV(H:Hp)(u w:AC)(x:Nm)(hu:fN H u x.1)(hw:fN H w x.2):
  Con E2 141 [.agg [u,w]] H (λ_=>False) λr _=>r=.one (.i .i64 (kN x)):=by
 refine Con.qw (λH=>fN H u x.1) hu (λH=>fN H w x.2) hw λH hu hw=>?_;refine C1.jR 40 [.tmp 2] Tryz.func141 λtm h0=>?_;have fin:=rC E2 H 2 (kN x);generalize C0:kN x=r0 at fin;unfold kN at C0;refine qG (qA aj h0) λK hK=>?_;apply hK;refine R1.gen (λA1 H1=>Gr H H1/\H.nx<H1.nx/\H1.get H.nx=some (.arr [u,w] 56 0 0)/\eZ A1 H.nx (A1.nt=40/\A1.dfr=[]))
  ⟨(Fr.refl _).new _,?_⟩ ?_
 ·exact qZ h0
 rintro A1 H1 ⟨g1,n1,rx,t1,z0,A0⟩;clear h0 tm;have J2:=hu.gr g1;have c8:=hw.gr g1;by_cases h24:(24:Int)<x.1.length
 ·have c24:((24:Int)<x.1.length)=True:=bH h24;rw[ad (.inl h24)]at C0;refine qW (zDl aj t1 z0 rx n1 eE eP dU J2.len J2.lt c24) ?_;refine qY ?_;refine qW z0 ?_;exact fin 3 _ _ qp (qd A0) g1 C0
 have c24:((24:Int)<x.1.length)=False:=bh h24;by_cases h25:(24:Int)<x.2.length
 ·have c25:((24:Int)<x.2.length)=True:=bH h25;rw[ad (.inr h25)]at C0;refine qW (zDm aj t1 z0 rx n1 eE jd eP dU J2.len J2.lt (zDe c8.len c8.lt c24 c25)) ?_;refine qY ?_;refine qW z0 ?_;exact fin 3 _ _ qp (qd A0) g1 C0
 have c25:((24:Int)<x.2.length)=False:=bh h25;rw[ab (λh=>h.elim h24 h25)]at C0;refine qW (zDm aj t1 z0 rx n1 eE jd eP dU J2.len J2.lt (zDe c8.len c8.lt c24 c25)) ?_;refine qY ?_;by_cases hz:x.1.length=0
 ·have cz:((x.1.length:Int)==0)=true:=by rw[hz];rfl
  rw[ad hz]at C0;refine qW (zDl aj t1 z0 rx n1 eE eP dU J2.len J2.lt cz) ?_;refine qY ?_;refine qW z0 ?_;exact fin 5 _ _ qp (qd A0) g1 C0
 have cz:((x.1.length:Int)==0)=false:=aF aa;rw[ab hz]at C0;refine qW (zDl aj t1 z0 rx n1 eE eP dU J2.len J2.lt cz) ?_;refine qY ?_;refine R1.bT ?_;refine qG (zDi aj t1 z0 rx n1 eE eP tR) λK hK=>?_;refine WE.con (sa H1 u x.1 false J2 aa) λr H2 g2 hr=>?_;subst hr;have rx2:H2.get H.nx=some (.arr [u,w] 56 0 0):=by rw[g2.get _ n1 aE];exact rx
 have n2:H.nx<H2.nx:=ax n1 g2.nx;have g2':=g1.gr g2;refine qS (qA aj z0) ?_;apply hK;generalize gP false [] x.1=e1 at C0 |-;by_cases L3:e1=0
 case neg=>have ce:(e1 != 0)=true:=bne_iff_ne.2 L3;rw[ad L3]at C0;refine qW (zDd aj z0 ce) ?_;refine qE λKx Ky hx hy=>?_;refine iI (λ_=>hx ?_) (λh=>absurd ce (by simpa using h));refine qW z0 ?_;exact fin e1 _ _ qp (qd A0) g2' C0
 rw[ab (λh=>h L3)]at C0;refine qW (zDd aj z0 L3) ?_;refine qY ?_;refine R1.bT ?_;refine qG (zDi aj t1 z0 rx2 n2 jd eP tR) λK hK=>?_;refine WE.con (sa H2 w x.2 true (c8.gr g2) aa) λr H3 g3 hr=>?_;subst hr;have rx3:H3.get H.nx=some (.arr [u,w] 56 0 0):=by rw[g3.get _ n2 aE];exact rx2
 have n3:H.nx<H3.nx:=ax n2 g3.nx;have g3':=g2'.gr g3;have t_:=(J2.gr g2).gr g3;have O3:=(c8.gr g2).gr g3;refine qS (qA aj z0) ?_;apply hK;generalize gP true [] x.2=e2 at C0 |-;by_cases n_:e2=0
 case neg=>have ce:(e2 != 0)=true:=bne_iff_ne.2 n_;rw[ad n_]at C0;refine qW (zDd aj z0 ce) ?_;refine qE λKx Ky hx hy=>?_;refine iI (λ_=>hx ?_) (λh=>absurd ce (by simpa using h));refine qW z0 ?_;exact fin e2 _ _ qp (qd A0) g3' C0
 rw[ab (λh=>h n_)]at C0;refine qW (zDd aj z0 n_) ?_;refine qY ?_;refine R1.bT ?_;by_cases hp:0<x.2.length
 ·have cp:((0:Int)<x.2.length)=True:=bH aa;refine qG (zDm aj t1 z0 rx3 n3 eE jd eP dU t_.lt O3.len (zDd O3.lt cp QA)) λK hK=>?_;refine WE.con (LY H3 u x.1 t_ aa) λr H4 g4 hr=>?_;subst hr;have g4':=g3'.gr g4;refine qS (qA aj z0) ?_;apply hK;cases hb:uj x.1 with
  |true=>rw[ad ⟨hp,hb⟩]at C0;refine qY ?_;refine qW z0 ?_;exact fin 24 _ _ qp (qd A0) g4' C0
  |false=>rw[ab (λh=>by rw[hb]at h;cases h.2)]at C0;refine qY ?_;refine qW z0 ?_;exact fin 0 _ _ qp (qd A0) g4' C0
 have cp:((0:Int)<x.2.length)=False:=bh aa;rw[ab (λh=>hp h.1)]at C0;refine qW (zDm aj t1 z0 rx3 n3 eE jd eP dU t_.lt O3.len (qA O3.lt cp)) ?_;refine qY ?_;refine qW z0 ?_;exact fin 0 _ _ qp (qd A0) g3' C0
def Dc(H:Hp)(u w:AC)(x:Nm)(hu:fN H u x.1)(hw:fN H w x.2):
  Con E2 162 [.agg [u,w]] H (λ_=>False) λr _=>r=.one (.i .i64 (kN x)):=by
 refine Con.qw (λH=>fN H u x.1) hu (λH=>fN H w x.2) hw λH hu hw=>?_;refine C1.jR 40 [.tmp 2] Tryz.func162 λtm h0=>?_;have fin:=rC E2 H 2 (kN x);generalize C0:kN x=r0 at fin;unfold kN at C0;refine qG (qA aj h0) λK hK=>?_;apply hK;refine R1.gen (λA1 H1=>Gr H H1/\H.nx<H1.nx/\H1.get H.nx=some (.arr [u,w] 56 0 0)/\eZ A1 H.nx (A1.nt=40/\A1.dfr=[]))
  ⟨(Fr.refl _).new _,?_⟩ ?_
 ·exact qZ h0
 rintro A1 H1 ⟨g1,n1,rx,t1,z0,A0⟩;clear h0 tm;have J2:=hu.gr g1;have c8:=hw.gr g1;by_cases h24:(24:Int)<x.1.length
 ·have c24:((24:Int)<x.1.length)=True:=bH h24;rw[ad (.inl h24)]at C0;refine qW (zDl aj t1 z0 rx n1 eE eP dU J2.len J2.lt c24) ?_;refine qY ?_;refine qW z0 ?_;exact fin 3 _ _ qp (qd A0) g1 C0
 have c24:((24:Int)<x.1.length)=False:=bh h24;by_cases h25:(24:Int)<x.2.length
 ·have c25:((24:Int)<x.2.length)=True:=bH h25;rw[ad (.inr h25)]at C0;refine qW (zDm aj t1 z0 rx n1 eE jd eP dU J2.len J2.lt (zDe c8.len c8.lt c24 c25)) ?_;refine qY ?_;refine qW z0 ?_;exact fin 3 _ _ qp (qd A0) g1 C0
 have c25:((24:Int)<x.2.length)=False:=bh h25;rw[ab (λh=>h.elim h24 h25)]at C0;refine qW (zDm aj t1 z0 rx n1 eE jd eP dU J2.len J2.lt (zDe c8.len c8.lt c24 c25)) ?_;refine qY ?_;by_cases hz:x.1.length=0
 ·have cz:((x.1.length:Int)==0)=true:=by rw[hz];rfl
  rw[ad hz]at C0;refine qW (zDl aj t1 z0 rx n1 eE eP dU J2.len J2.lt cz) ?_;refine qY ?_;refine qW z0 ?_;exact fin 5 _ _ qp (qd A0) g1 C0
 have cz:((x.1.length:Int)==0)=false:=aF aa;rw[ab hz]at C0;refine qW (zDl aj t1 z0 rx n1 eE eP dU J2.len J2.lt cz) ?_;refine qY ?_;refine R1.bT ?_;refine qG (zDi aj t1 z0 rx n1 eE eP AI) λK hK=>?_;refine WE.con (yL H1 u x.1 false J2 aa) λr H2 g2 hr=>?_;subst hr;have rx2:H2.get H.nx=some (.arr [u,w] 56 0 0):=by rw[g2.get _ n1 aE];exact rx
 have n2:H.nx<H2.nx:=ax n1 g2.nx;have g2':=g1.gr g2;refine qS (qA aj z0) ?_;apply hK;generalize gP false [] x.1=e1 at C0 |-;by_cases L3:e1=0
 case neg=>have ce:(e1 != 0)=true:=bne_iff_ne.2 L3;rw[ad L3]at C0;refine qW (zDd aj z0 ce) ?_;refine qE λKx Ky hx hy=>?_;refine iI (λ_=>hx ?_) (λh=>absurd ce (by simpa using h));refine qW z0 ?_;exact fin e1 _ _ qp (qd A0) g2' C0
 rw[ab (λh=>h L3)]at C0;refine qW (zDd aj z0 L3) ?_;refine qY ?_;refine R1.bT ?_;refine qG (zDi aj t1 z0 rx2 n2 jd eP AI) λK hK=>?_;refine WE.con (yL H2 w x.2 true (c8.gr g2) aa) λr H3 g3 hr=>?_;subst hr;have rx3:H3.get H.nx=some (.arr [u,w] 56 0 0):=by rw[g3.get _ n2 aE];exact rx2
 have n3:H.nx<H3.nx:=ax n2 g3.nx;have g3':=g2'.gr g3;have t_:=(J2.gr g2).gr g3;have O3:=(c8.gr g2).gr g3;refine qS (qA aj z0) ?_;apply hK;generalize gP true [] x.2=e2 at C0 |-;by_cases n_:e2=0
 case neg=>have ce:(e2 != 0)=true:=bne_iff_ne.2 n_;rw[ad n_]at C0;refine qW (zDd aj z0 ce) ?_;refine qE λKx Ky hx hy=>?_;refine iI (λ_=>hx ?_) (λh=>absurd ce (by simpa using h));refine qW z0 ?_;exact fin e2 _ _ qp (qd A0) g3' C0
 rw[ab (λh=>h n_)]at C0;refine qW (zDd aj z0 n_) ?_;refine qY ?_;refine R1.bT ?_;by_cases hp:0<x.2.length
 ·have cp:((0:Int)<x.2.length)=True:=bH aa;refine qG (zDm aj t1 z0 rx3 n3 eE jd eP dU t_.lt O3.len (zDd O3.lt cp LR)) λK hK=>?_;refine WE.con (KD H3 u x.1 t_ aa) λr H4 g4 hr=>?_;subst hr;have g4':=g3'.gr g4;refine qS (qA aj z0) ?_;apply hK;cases hb:uj x.1 with
  |true=>rw[ad ⟨hp,hb⟩]at C0;refine qY ?_;refine qW z0 ?_;exact fin 24 _ _ qp (qd A0) g4' C0
  |false=>rw[ab (λh=>by rw[hb]at h;cases h.2)]at C0;refine qY ?_;refine qW z0 ?_;exact fin 0 _ _ qp (qd A0) g4' C0
 have cp:((0:Int)<x.2.length)=False:=bh aa;rw[ab (λh=>hp h.1)]at C0;refine qW (zDm aj t1 z0 rx3 n3 eE jd eP dU t_.lt O3.len (qA O3.lt cp)) ?_;refine qY ?_;refine qW z0 ?_;exact fin 0 _ _ qp (qd A0) g3' C0
def TG:ao prog 67=true:=ae
def vu{E:Env}{s s':Tmp}{t t':TypeId}{A:ag}{H H2:Hp}{e:au}{id id' g g':Nat}{c c':AC}(ht:loadT E.P t=some (false,1))(ht':loadT E.P t'=some (false,1))(he:e=.normal\/e=.ret)(hd:closeAll H A.dfr=some H2)
  (hs:slot A.tm s=.one (.o (.ptr id g 0 1))) (u_:slot A.tm s'=.one (.o (.ptr id' g' 0 1))) (hg:rowOf (H2.get id) g=some [c]) (Q2:rowOf (H2.get id') g'=some [c']):
  aK E [.cell s t,.cell s' t'] (e,A,H)=.ok [(.tup [(false,[c]),(false,[c'])],H2)]:=by
 have one:∀(s:Tmp)(t:TypeId)(id g:Nat)(c:AC),loadT E.P t=some (false,1)->slot A.tm s=.one (.o (.ptr id g 0 1))->rowOf (H2.get id) g=some [c]->ph E.P (.cell s t) A.tm H2=some (false,[c]):=λs t id g c ht hs hg=>by
  have e0:ph E.P (.cell s t)=match loadT E.P t with|some p=>λtm h=>aG (tm.get s) none λv=>ah.rec (motive:=λ_=>Option (Bool×List AC)) (λv _=>mS v) (λ_=>none) (λ_ _=>none) (λ_ _=>none) (λ_=>none) (eu h p.1 p.2 v)|none=>λ_ _=>none:=rfl
  rw[e0,ht];show aG (A.tm.get s) none (λv=>ah.rec (motive:=λ_=>Option (Bool×List AC)) (λv _=>mS v) (λ_=>none) (λ_ _=>none) (λ_ _=>none) (λ_=>none) (eu H2 false 1 v))=_;rw[Mq hs];show ah.rec (motive:=λ_=>Option (Bool×List AC)) (λv _=>mS v) (λ_=>none) (λ_ _=>none) (λ_ _=>none) (λ_=>none) (eu H2 false 1 (.one (.o (.ptr id g 0 1))))=_;rw[jW,hg,zv (ai _) (by simp)];rfl
 have key:(aG (closeAll H A.dfr) (R.bad "marks") λh2=>aG (dq E.P [.cell s t,.cell s' t'] A.tm h2) (.bad "results") λl=>.ok [(gT l,h2)])=.ok [(.tup [(false,[c]),(false,[c'])],H2)]:=by
  rw[hd];have hr:dq E.P [.cell s t,.cell s' t'] A.tm H2=some [(false,[c]),(false,[c'])]:=by show aG (ph E.P (.cell s t) A.tm H2) none (λx=>aG (aG (ph E.P (.cell s' t') A.tm H2) none λx=>aG (some []) none λl=>some (x::l)) none λl=>some (x::l))=_;rw[one s t id g c ht hs hg,one s' t' id' g' c' ht' u_ Q2];rfl
  show aG (dq E.P [.cell s t,.cell s' t'] A.tm H2) (R.bad "results") (λl=>R.ok [(gT l,H2)])=_
  rw[hr];rfl
 rcases he with rfl|rfl
 ·exact key
 exact key
def Lt:List (Pr×Int)->List UInt8->Int×Int
 |[],_=>(0,11)
 |y::ys,s=>if y.1.1=s then(y.2,0)else Lt ys s
def tM(n:List UInt8)(us:List Pr)(s:List UInt8):Int×Int:=if aP n us≠0 then(0,aP n us)else Lt (yv 1 us) s
def Sy(H:Hp)(n:List UInt8)(u:AC)(us:List Pr)(s:List UInt8)(hu:SlP H u us):
  Con E2 67 [.agg [.o (.str n),u],.one (.o (.str s))] H (λ_=>False) λr _=>r=.tup [(false,[.i .i64 (tM n us s).1]),(false,[.i .i64 (tM n us s).2])]:=by
 refine Con.lT (λH=>SlP H u us) hu λH hu=>?_;refine C1.fD 23 [.cell 4 3,.cell 5 35] Tryz.func67 λtm h0 h1=>?_;refine qG (zDf aj h0 h1 xd xS) λK hK=>?_;apply hK;have W2:∀id∈(AV.one u).ids,id<H.nx:=hu.lt;refine R1.gen (λA1 H1=>Gr H H1/\H.nx+3<H1.nx/\H1.get H.nx=some (.arr [.o (.str n),u] 51 0 0)/\H1.get (H.nx+1)=some (.arr [.o (.str s)] 9 0 0)/\H1.get (H.nx+1+1)=some (.arr [.i .i64 0] 3 0 0)/\H1.get (H.nx+1+1+1)=some (.arr [.i .i64 0] 35 0 0)/\fb A1 H.nx (slot A1.tm 3=.one (.o (.ptr (H.nx+1) 0 0 1))/\jM A1 (H.nx+1+1) (eO A1 5 (.o (.ptr (H.nx+1+1+1) 0 0 1)) 23 [])))
  ⟨((((Fr.refl _).new _).new _).new _).new _,?_⟩ ?_
 ·refine qT ?_;rw[bw (by show H.nx<H.nx+1+1+1;omega),bw (by show H.nx<H.nx+1+1;omega),bw (by show H.nx<H.nx+1;omega)];exact aC rfl
 rintro A1 H1 ⟨g1,n1,r1,r2,r4,r5,t2,t3,t4,t5,z0,A0⟩;clear h0 h1 tm;have J2:SlP H1 u us:=hu.gr g1;obtain⟨c1,R7⟩:=dI H.nx;obtain⟨c2,N9⟩:∃c,c=H.nx+1:=⟨_,rfl⟩;obtain⟨c4,Y9⟩:∃c,c=H.nx+1+1:=⟨_,rfl⟩;obtain⟨c5,hc5⟩:∃c,c=H.nx+1+1+1:=⟨_,rfl⟩;rw[<-hc5]at r5 t5;rw[<-Y9]at r4 t4;rw[<-N9]at r2 t3;rw[<-R7]at r1 t2 W2;have o12:c1<c2:=aa;have o24:c2<c4:=aa;have o45:c4<c5:=aa;have o5:c5<H1.nx:=aa;clear hc5 Y9 N9 n1;have l1:c1<H1.nx:=aa;have l2:c2<H1.nx:=aa;have l4:c4<H1.nx:=aa;have fin:∀(e:au)(A:ag)(H2 H3:Hp)(v w:Int),(e=.normal\/e=.ret)->closeAll H2 A.dfr=some H3->Gr H H3->slot A.tm 4=.one (.o (.ptr c4 0 0 1))->slot A.tm 5=.one (.o (.ptr c5 0 0 1))->H3.get c4=some (.arr [.i .i64 v] 3 0 0)->H3.get c5=some (.arr [.i .i64 w] 35 0 0)->(v,w)=tM n us s ->
   ∃w H4,aK E2 [.cell 4 3,.cell 5 35] (e,A,H2)=.ok [(w,H4)]/\Gr H H4/\∀_:List Nat,w=.tup [(false,[.i .i64 (tM n us s).1]),(false,[.i .i64 (tM n us s).2])]:=λe A H2 H3 v w he hd hg hs u_ hr T3 hv=>
  ⟨_,H3,vu (c:=.i .i64 v) (c':=.i .i64 w) bF vV he hd hs u_ (by rw[hr];exact cH (ai _) (ai _)) (by rw[T3];exact cH (ai _) (ai _)),hg,λ_=>by rw[<-hv]⟩
 generalize C0:tM n us s=r0 at fin;unfold tM at C0;repeat refine R1.aJ ?_
 refine qG (zDh aj t2 z0 r1 l1 fW AE) λK hK=>?_;refine WE.con (xk H1 n u us J2) λv H2 g2 hv=>?_;subst hv;have r1:H2.get c1=some (.arr [.o (.str n),u] 51 0 0):=by rw[g2.get _ l1 aE];exact r1
 have r2:H2.get c2=some (.arr [.o (.str s)] 9 0 0):=by rw[g2.get _ l2 aE];exact r2
 have r4:H2.get c4=some (.arr [.i .i64 0] 3 0 0):=by rw[g2.get _ l4 aE];exact r4
 have r5:H2.get c5=some (.arr [.i .i64 0] 35 0 0):=by rw[g2.get _ o5 aE];exact r5
 have o5:c5<H2.nx:=ax o5 g2.nx;have l1:c1<H2.nx:=aa;have l2:c2<H2.nx:=aa;have l4:c4<H2.nx:=aa;have o7:=J2.gr g2;have g2:=g1.gr g2;have hlen:=@mC n us;refine qS (qA aj z0) ?_;apply hK;generalize aP n us=e0 at C0 hlen |-;by_cases Y0:e0=0
 case neg=>
  have ce:(e0 != 0)=true:=bne_iff_ne.2 Y0;rw[ad Y0]at C0;refine qW (zDd aj z0 ce) ?_;refine qE λKx Ky hx hy=>?_;refine iI (λ_=>hx ?_) (λh=>absurd ce (by simpa using h));repeat' first|refine R1.ret ?_|refine R1.exit ?_|refine R1.skip ?_|refine R1.yQ ?_|refine R1.si ?_|refine R1.aJ ?_|refine R1.bT ?_|refine R1.nQ ?_|((first|refine R1.Gn λK hK=>?_|refine R1.sj λK hK=>?_|refine R1.CV ae λK hK=>?_|refine R1.Co ae λK hK=>?_);simp only[qB,aZ,Nat.reduceLT,Nat.reduceEqDiff,Nat.reduceLeDiff,reduceIte,Nat.reduceAdd,Nat.reduceSub,Nat.reduceMul,Int.reduceLT,Int.reduceLE,Int.reduceBEq,aj,t4,t5,z0,Cx,jf,r4,r5,l4,o5,aB (Nat.ne_of_gt o45)];apply hK;clear hK K)
  exact fin .ret _ _ _ 0 e0 (.inr rfl) (by simp only[aM,A0];rfl) ((g2.mod _ (.inl aa)).mod _ (.inl aa)) (by simp only[ak,Nat.reduceEqDiff,reduceIte,t4]) (by simp only[ak,Nat.reduceEqDiff,reduceIte,t5]) (by rw[aB aa];exact aq rfl) (aq rfl) C0
 rw[ab (λh=>h Y0)]at C0;have hlen:=hlen Y0;refine qW (zDd aj z0 Y0) ?_;refine qY ?_;refine R1.bT ?_;repeat refine R1.aJ ?_
 refine qG (zDh aj t2 z0 r1 l1 fW IB) λK hK=>?_;refine WE.con (FJ H2 (.o (.str n)) u o7.lt) λv H5 g5⟨hv,U3,I9⟩=>?_;subst hv;refine qS (qA aj z0) ?_;apply hK;refine R1.lq (λA4=>slot A4.tm 3=.one (.o (.ptr c2 0 0 1))/\jM A4 c4 (nu A4 5 15 (.o (.ptr c5 0 0 1)) (.o (.clo 115 [(H2.nx,0,0,2)])) 23 []))
  ⟨by simp only[ak,Nat.reduceEqDiff,reduceIte,t3],by simp only[ak,Nat.reduceEqDiff,reduceIte,t4],by simp only[ak,Nat.reduceEqDiff,reduceIte,t5],by simp only[ak,Nat.reduceEqDiff,reduceIte],by simp only[bq,z0],by simp only[aM,A0]⟩ ?_
 clear t2 t3 t4 t5 z0 A0 A1;rintro A ⟨t3,t4,t5,t15,z0,A0⟩;have gg:Gr H H5:=g2.gr g5;have r2:H5.get c2=some (.arr [.o (.str s)] 9 0 0):=by rw[g5.get _ l2 aE];exact r2
 have r4:H5.get c4=some (.arr [.i .i64 0] 3 0 0):=by rw[g5.get _ l4 aE];exact r4
 have r5:H5.get c5=some (.arr [.i .i64 0] 35 0 0):=by rw[g5.get _ o5 aE];exact r5
 have o6:SlP H5 u us:=o7.gr g5;obtain⟨il,F_⟩:=dI H2.nx;rw[<-F_]at U3 I9 t15 o5 l1 l2 l4;clear F_;generalize hys:yv 1 us=ys at C0;refine R1.bj λK k1 k2 k3 k4=>?_;refine R1.range (σ:=Unit) (g:=115) (caps:=[(il,0,0,2)]) (n:=ys.length) (ar:=yA ys) (D:=DL il u) (by simp only[DU,t15]) DA (λ_=>rfl)
  (FI H5 il (.o (.str n)) u us I9 U3 o6 aa ys hys) (λk hk=>by
   rcases hk with h|h
   ·omega
   exact wY (W2 k h) aa) (by rw[z0];rfl) (λi _=>XB ys i)
  (λi _ H6=>H6.get c2=some (.arr [.o (.str s)] 9 0 0)/\H6.get c4=some (.arr [.i .i64 0] 3 0 0)/\H6.get c5=some (.arr [.i .i64 0] 35 0 0)/\Lt (ys.drop i) s=r0/\H5.nx<=H6.nx)
  (λe _ H6=>e=.ret/\H6.get c4=some (.arr [.i .i64 r0.1] 3 0 0)/\H6.get c5=some (.arr [.i .i64 r0.2] 35 0 0)/\H5.nx<=H6.nx)
  (λ_ k=>k=c4\/k=c5) ?_ ?_ ?_ () ?_ ?_ ?_ ?_
 ·rintro i _ H6 H7 ⟨a1,a2,a3,a4,a5⟩ hs;exact⟨by rw[hs.get _ aa aa];exact a1,by rw[hs.get _ aa aa];exact a2,by rw[hs.get _ aa aa];exact a3,a4,aS a5 hs.nx⟩
 ·rintro e _ H6 H7 ⟨a1,a2,a3,a5⟩ hs;exact⟨a1,by rw[hs.get _ aa aa];exact a2,by rw[hs.get _ aa aa];exact a3,aS a5 hs.nx⟩
 ·rintro i _ H6 k ⟨a1,a2,a3,a4,a5⟩ hk;have:k<H5.nx/\c1<k/\k<il:=by rcases hk with rfl|rfl<;>omega
  refine⟨aa,aa,aa,λh=>?_⟩;rcases h with h|h
  ·omega
  have:=W2 k h;omega
 ·intro H6 g6 n6;exact⟨by rw[g6.get _ aa aE];exact r2,by rw[g6.get _ aa aE];exact r4,by rw[g6.get _ aa aE];exact r5,by rw[List.drop_zero];exact C0,g6.nx⟩
 ·rintro i _ H6 hi ⟨a1,a2,a3,a4,a5⟩ n6;have hy:=aA hi;have M0:=List.drop_eq_getElem_cons hi;generalize ys[i]=y at hy M0;rw[M0,Lt]at a4;rw[XA hy];obtain⟨x,yval⟩:=y;refine R1.lq (λA7=>slot A7.tm 3=.one (.o (.ptr c2 0 0 1))/\jM A7 c4 (slot A7.tm 5=.one (.o (.ptr c5 0 0 1))/\slot A7.tm 16=.agg (prC x)/\eO A7 17 (.i .i64 yval) 23 [])) ⟨?_,?_,?_,?_,?_,z0,rfl⟩ ?_
  ·show slot ((A.tm.set 16 _).set 17 _) 3=_;simp only[dt,Nat.reduceEqDiff,reduceIte,t3]
  ·show slot ((A.tm.set 16 _).set 17 _) 4=_;simp only[dt,Nat.reduceEqDiff,reduceIte,t4]
  ·show slot ((A.tm.set 16 _).set 17 _) 5=_;simp only[dt,Nat.reduceEqDiff,reduceIte,t5]
  ·show slot ((A.tm.set 16 _).set 17 _) 16=_;simp only[dt,Nat.reduceEqDiff,reduceIte]
  ·show slot ((A.tm.set 16 _).set 17 _) 17=_;simp only[dt,Nat.reduceEqDiff,reduceIte]
  rintro A7 ⟨u3,u4,u5,u16,u17,unt,udf⟩;refine qW (zDh aj u16 u17 unt qg tt gS) ?_;refine⟨rfl,((Fr.refl _).new _).mod _ (.inl (ai _)),λH8 n8 s8=>?_⟩;have gu:H8.get H6.nx=some (.arr (prC x) 133 0 0):=by rw[s8.get _ (by show H6.nx<H6.nx+1;omega) aa];exact aq rfl
  have kR:∀k,k<H5.nx->H8.get k=H6.get k:=λk hk=>by rw[s8.get _ (by show k<H6.nx+1;omega) aa,aB aa,bw aa]
  have n8':H8.nx=H6.nx+1:=n8;have b2:H8.get c2=some (.arr [.o (.str s)] 9 0 0):=(kR c2 aa).trans a1;have b4:H8.get c4=some (.arr [.i .i64 0] 3 0 0):=(kR c4 aa).trans a2;have b5:H8.get c5=some (.arr [.i .i64 0] 35 0 0):=(kR c5 aa).trans a3;have lu:H6.nx<H8.nx:=aa;have m2:c2<H8.nx:=aa;have m4:c4<H8.nx:=aa;have m5:c5<H8.nx:=aa;refine R1.lS λK2 p1 p2 p3 p4=>?_;repeat refine R1.aJ ?_
  by_cases B6:x.1=s
  ·rw[ad B6]at a4;have cs:=beq_iff_eq.2 B6;refine qW (zDk aj u3 unt gu lu b2 m2 cV bS gS) ?_;refine qE λKx Ky hx hy=>?_;rw[fF,cs];refine hx ?_;repeat' first|refine R1.ret ?_|refine R1.exit ?_|refine R1.skip ?_|refine R1.yQ ?_|refine R1.si ?_|refine R1.aJ ?_|refine R1.bT ?_|refine R1.nQ ?_|((first|refine R1.Gn λK hK=>?_|refine R1.sj λK hK=>?_|refine R1.CV ae λK hK=>?_|refine R1.Co ae λK hK=>?_);simp only[qB,aZ,Nat.reduceLT,Nat.reduceEqDiff,Nat.reduceLeDiff,reduceIte,Nat.reduceAdd,Nat.reduceSub,Nat.reduceMul,Int.reduceLT,Int.reduceLE,Int.reduceBEq,aj,u4,u5,unt,Cx,jf,b4,b5,m4,m5,aB (Nat.ne_of_gt o45)];apply hK;clear hK K)
   refine p4 _ _ ⟨by simp only[aM,udf],((Fr.refl _).mod _ (.inr (.inl (.inl rfl)))).mod _ (.inr (.inl (.inr rfl))),(),λh=>(by cases h),λ_=>⟨rfl,?_,?_,by show H5.nx<=H8.nx;omega⟩,λk hk=>.inl hk⟩
   ·rw[aB aa,<-a4];exact aq rfl
   rw[<-a4];exact aq rfl
  rw[ab B6]at a4;have cs:(x.1==s)=false:=aF B6;refine qW (zDk aj u3 unt gu lu b2 m2 cV bS gS) ?_;refine qE λKx Ky hx hy=>?_;rw[fF,cs];refine hy ?_;refine qV ?_;refine p1 _ _ ⟨by simp only[aM,udf],Fr.refl _,(),λ_=>⟨b2,b4,b5,a4,aa⟩,λh=>absurd rfl h,λk hk=>.inl hk⟩
 ·rintro s' H6 ⟨a1,a2,a3,a4,a5⟩ n6 hd6 X6 M7;have g6:Gr H H6:=gg.then X6 λk hk=>.inl (by rcases hk with rfl|rfl<;>omega);have m4:c4<H6.nx:=aa;have m5:c5<H6.nx:=aa;rw[ct,Lt]at a4;refine k1 _ _ ?_;refine R1.lq (λA7=>jM A7 c4 (slot A7.tm 5=.one (.o (.ptr c5 0 0 1))/\A7.nt=23/\A7.dfr=[H5.nx])) ⟨t4,t5,z0,by show H5.nx::A.dfr=_;rw[A0]⟩ ?_;rintro A7 ⟨u4,u5,unt,udf⟩;repeat' first|refine R1.ret ?_|refine R1.exit ?_|refine R1.skip ?_|refine R1.yQ ?_|refine R1.si ?_|refine R1.aJ ?_|refine R1.bT ?_|refine R1.nQ ?_|((first|refine R1.Gn λK hK=>?_|refine R1.sj λK hK=>?_|refine R1.CV ae λK hK=>?_|refine R1.Co ae λK hK=>?_);simp only[qB,aZ,Nat.reduceLT,Nat.reduceEqDiff,Nat.reduceLeDiff,reduceIte,Nat.reduceAdd,Nat.reduceSub,Nat.reduceMul,Int.reduceLT,Int.reduceLE,Int.reduceBEq,aj,u4,u5,unt,Cx,jf,a2,a3,m4,m5,aB (Nat.ne_of_gt o45)];apply hK;clear hK K)
  refine fin .ret _ _ _ 0 11 (.inr rfl) (by simp only[aM,udf];exact iF (by rw[aB aa,aB aa];exact hd6)) (((g6.mod _ (.inl aa)).mod _ (.inl aa)).mod _ (.inl (by have:=gg.nx;omega))) (by simp only[ak,Nat.reduceEqDiff,reduceIte,u4]) (by simp only[ak,Nat.reduceEqDiff,reduceIte,u5]) (by rw[aB aa,aB aa];exact aq rfl) (by rw[aB aa];exact aq rfl) a4
 rintro e s' H6 Q0 ⟨rfl,a2,a3,a5⟩ n6 hd6 X6 M7;have g6:Gr H H6:=gg.then X6 λk hk=>.inl (by rcases hk with rfl|rfl<;>omega);exact k4 _ _ (fin .ret _ _ _ _ _ (.inr rfl) (by show closeAll H6 (H5.nx::A.dfr)=_;rw[A0];exact iF hd6) (g6.mod _ (.inl (by have:=gg.nx;omega))) t4 t5 (by rw[aB aa];exact a2) (by rw[aB aa];exact a3) rfl)
def eR{n:List UInt8}{us:List Pr}(h:aP n us=0):us.length<=12/\(yv 1 us).length=us.length/\∀x∈us,1<=x.2/\x.2<=60:=by
 have hl:=mC h;unfold aP at h;by_cases hk:iP n us=true
 ·unfold iP at hk;simp only[aV,bI]at hk;have hy:=hk.1.2;exact⟨hl,hy,((Ab 1 us).1 hy).1⟩
 rw[ab hk]at h;cases h
def Aa:∀(v:Int)(us:List Pr),(yv v us).length=us.length->cR v us=some ((yv v us).map (·.2))
 |_,[],_=>rfl
 |v,x::us,h=>by
  unfold yv at h |-;unfold cR;by_cases hb:x.2<1\/60<x.2\/1099511627776<v*x.2
  ·rw[ad hb]at h;simp at h
  rw[ab hb]at h |-;rw[ab (λh=>hb (.inr (.inr h))),Aa _ us (by simpa using h)];rfl
def Lu:∀(k:Nat)(v:Int)(us:List Pr)(s:List UInt8),(yv v us).length=us.length ->
  (rJ k us s<0/\Lt (yv v us) s=(0,11))\/∃j y,j<us.length/\rJ k us s=((k+j:Nat):Int)/\(yv v us)[j]?=some y/\Lt (yv v us) s=(y.2,0)
 |_,_,[],_,_=>.inl ⟨by unfold rJ;omega,rfl⟩
 |k,v,x::us,s,h=>by
  unfold yv at h |-;by_cases hb:x.2<1\/60<x.2\/1099511627776<v*x.2
  ·rw[ad hb]at h;simp at h
  rw[ab hb]at h |-;rw[Lt,rJ];by_cases hs:x.1=s
  ·right;refine⟨0,(x,v*x.2),by simp,?_,rfl,?_⟩
   ·rw[ad hs];rfl
   rw[ad hs]
  rw[ab hs,ab hs];rcases Lu (k+1) (v*x.2) us s (by simpa using h)with⟨h1,h2⟩|⟨j,y,h0,h1,h2,h3⟩
  ·exact .inl ⟨h1,h2⟩
  refine .inr ⟨j+1,y,by rw[List.length_cons];omega,?_,by rw[List.getElem?_cons_succ];exact h2,h3⟩;rw[h1];omega
def QD:ao prog 20=true:=ae
def Iv:ao prog 12=true:=ae
def SlI.gr{H H':Hp}{v:AC}{l:List Int}(h:SlI H v l)(hg:Gr H H'):SlI H' v l:=SlC.gr h hg
def SlI.len{H:Hp}{v:AC}{l:List Int}(h:SlI H v l):eD H 1 (.one v)=.val (.one (.i .i64 (l.length:Int))) H:=SlC.len h
def SlI.lt{H:Hp}{v:AC}{l:List Int}(h:SlI H v l):ltV (.one v) H.nx:=pD h
def SlI.nil{H:Hp}:SlI H (.o .nilS) []:=⟨by simp,.inl ⟨rfl,rfl⟩⟩
def SlI.open{H:Hp}{v:AC}{l:List Int}(h:SlI H v l)(hn:0<l.length):∃id g off cells,v=.o (.sl id g off l.length 1)/\id<H.nx/\rowOf (H.get id) g=some cells/\∀(i:Nat)(x:Int),l[i]?=some x->(cells.drop (off+i*1)).headD (.b false)=.i .i64 x/\off+i*1+1<=cells.length:=by
 obtain⟨id,g,off,h1,h2,hr⟩:=SlC.pos h hn;have T3:=hr;obtain⟨cells,h3,h6,h7⟩:=hr;refine⟨id,g,off,cells,h1,h2,h3,λi x hx=>?_⟩;obtain⟨cells',k3,k6,k7⟩:=Rd.at (c:=CZ) UP T3 hx;rw[h3]at k3;cases k3
 refine⟨?_,k6⟩;cases hd:cells.drop (off+i*1)with
 |nil=>have:=congrArg List.length hd;simp at this;omega
 |cons a r=>rw[hd]at k7;have:=(lH k7).1;rw[this];rfl
def Mg(H:Hp)(v w:AC)(l:List Int)(hv:SlI H v l)(hw:SlI H w l)(hL:l.length<=4611686018427387904):
  Con E2 20 [.one v,.one w] H (λ_=>False) λr _=>r=.one (.b true):=by
 refine Con.qw (λH=>SlI H v l) hv (λH=>SlI H w l) hw λH hv hw=>?_;refine C1.fD 26 [.tmp 4] Tryz.func20 λtm h0 h1=>?_;have Q0:((l.length:Int)==(l.length:Int))=true:=by simp
 refine qW (zDj aj h0 h1 sY hv.len hw.len hv.lt hw.lt Q0) ?_;refine qY ?_;refine qV ?_;refine R1.bj λK k1 k2 k3 k4=>?_;refine R1.loop (λk A H2=>∃i:Nat,k=l.length-i/\i<=l.length/\H2=H/\eQ A.tm 0 1 (v) (w) (fu A i (A.nt=26/\A.dfr=[]))) ?_ l.length ⟨0,rfl,Nat.zero_le _,rfl,?_⟩
 ·clear h0 h1 tm;rintro k A H2 ⟨i,rfl,hi,rfl,t0,t1,t5,z0,A0⟩;refine qW (zDh aj t0 t5 z0 sY hv.len hv.lt) ?_;refine qE λKx Ky hx hy=>?_;refine iI (λhc=>hx ?_) (λhc=>hy ?_)
  ·clear hx hy Kx Ky;have B0:i<l.length:=aa;have ex:=aA B0;have M0:=List.drop_eq_getElem_cons B0;have Y1:=cK B0;have D0:=bW B0;generalize l[i]=x at ex M0 Y1 D0;have X1:=bB i;have S0:(x==x)=true:=by simp
   obtain⟨id,g,off,cells,rfl,hid,W0,J0⟩:=hv.open aa;obtain⟨id',g',off',cells',rfl,U4,hgr',N5⟩:=hw.open aa;have O0:=J0 i x ex;have V6:=N5 i x ex;refine qV ?_;refine R1.bj λK2 q1 q2 q3 q4=>?_;refine qH (zDm aj t0 t1 t5 z0 dp bF (ixC B0) hid W0 U4 (zDg hgr' O0.1 O0.2 V6.1 V6.2 S0)) λK hK=>?_;apply hK;refine qY ?_;refine qW z0 ?_;refine q1 _ _ ?_;refine qW (zDd z0 t5 X1) ?_;refine⟨l.length-(i+1),aa,i+1,rfl,B0,rfl,?_⟩;exact eo (zDf t0 t1 t5 z0 A0)
  clear hx hy Kx Ky;refine qW z0 ?_;refine k2 _ _ ?_;refine qW z0 ?_;exact⟨_,_,aw (.b true) (.inr rfl) (qd A0) qp,Fr.refl _,λ_=>rfl⟩
 exact eo (qA h0 h1)
def Gj(H:Hp)(v:AC)(l:List Int)(hv:SlI H v l)(hL:l.length*8<=140737488355328):
  Con E2 12 [.one v] H (λ_=>False) λr H'=>∃v',r=.one v'/\SlI H' v' l/\∀id∈(AV.one v').ids,H.nx<=id:=by
 refine Con.BB (λH=>SlI H v l) hv λH e hv=>?_;rw[<-e];clear e;refine C1.jR 7 [.tmp 2] Tryz.func12 λtm h0=>?_;obtain⟨z,hz,Q1⟩:=sH;obtain⟨v',H',B1,hs,hg,hi⟩:=XT (P:=prog) (t:=27) dp mB hz Q1 aU hv aa;have B0:=hv.lt;refine qV ?_;refine qG (zDe aj h0 B1 B0) λK hK=>?_;apply hK;refine qV ?_;exact⟨_,_,aw v' (.inr rfl) rfl qp,hg,λ_=>⟨v',rfl,hs,hi⟩⟩
abbrev Cl:=Int×List UInt8×List UInt8×Nm
def ClR(H:Hp)(c:List AC)(x:Cl):Prop:=∃p q,c=[.i .i64 x.1,.o (.str x.2.1),.o (.str x.2.2.1),p,q]/\fN H p x.2.2.2.1/\fN H q x.2.2.2.2
def ClR.gr{H H':Hp}{c:List AC}{x:Cl}(h:ClR H c x)(hg:Gr H H'):ClR H' c x:=let ⟨p,q,h1,h2,h3⟩:=h;⟨p,q,h1,h2.gr hg,h3.gr hg⟩
def dD(H:Hp)(v:AC)(l:List Cl):Prop:=SlR ClR 5 H v l
def dD.gr{H H':Hp}{v:AC}{l:List Cl}(h:dD H v l)(hg:Gr H H'):dD H' v l:=SlR.fI h hg.nx (λi hi=>hg.get i hi aE) λ_ _ h=>h.gr hg
def dD.len{H:Hp}{v:AC}{l:List Cl}(h:dD H v l):eD H 1 (.one v)=.val (.one (.i .i64 (l.length:Int))) H:=SlR.len h
def dD.lt{H:Hp}{v:AC}{l:List Cl}(h:dD H v l):ltV (.one v) H.nx:=SlR.lt h
structure ClAt(H:Hp)(cells:List AC)(o:Nat)(x:Cl)(p q:AC):Prop where
 of1:fN H p x.2.2.2.1
 of2:fN H q x.2.2.2.2
 all:(cells.drop o).take 5=[.i .i64 x.1,.o (.str x.2.1),.o (.str x.2.2.1),p,q]
 le:o+5<=cells.length
 le1:o+1<=cells.length
 le2:o+1+1<=cells.length
 le3:o+2+1<=cells.length
 le4:o+3+2<=cells.length
 f1:(cells.drop o).headD (.b false)=.i .i64 x.1
 f2:(cells.drop (o+1)).headD (.b false)=.o (.str x.2.1)
 f3:(cells.drop (o+2)).headD (.b false)=.o (.str x.2.2.1)
 f4:(cells.drop (o+3)).take 2=[p,q]
def ab1{cells:List AC}{o:Nat}{a b c d e:AC}(h:(cells.drop o).take 5=[a,b,c,d,e]):(cells.drop o).headD (.b false)=a/\(cells.drop (o+1)).headD (.b false)=b/\(cells.drop (o+2)).headD (.b false)=c/\(cells.drop (o+3)).take 2=[d,e]:=by
 rw[<-js,<-js,<-js];match hd:cells.drop o,h with
 |x0::x1::x2::x3::x4::r,h=>simp only[List.take_succ_cons,List.take_zero,tE,and_true]at h;obtain⟨rfl,rfl,rfl,rfl,rfl⟩:=h;exact⟨rfl,rfl,rfl,rfl⟩
def dD.open{H:Hp}{v:AC}{l:List Cl}(h:dD H v l)(hn:0<l.length):∃id g off cells,v=.o (.sl id g off l.length 5)/\id<H.nx/\rowOf (H.get id) g=some cells/\∀(i:Nat)(x:Cl),l[i]?=some x->∃p q,ClAt H cells (off+i*5) x p q:=by obtain⟨id,g,off,cells,h1,h2,h3,h4⟩:=SlR.open h hn;refine⟨id,g,off,cells,h1,h2,h3,λi x hx=>?_⟩;obtain⟨h5,c,h6,h7,p,q,rfl,h8,h9⟩:=h4 i x hx;obtain⟨d1,d2,d3,d4⟩:=ab1 h6;exact⟨p,q,h8,h9,h6,h5,aa,aa,aa,aa,d1,d2,d3,d4⟩
abbrev Rl:=Int×List Int
def RlR(H:Hp)(c:List AC)(x:Rl):Prop:=∃u,c=[.i .i64 x.1,u]/\SlI H u x.2
def RlR.gr{H H':Hp}{c:List AC}{x:Rl}(h:RlR H c x)(hg:Gr H H'):RlR H' c x:=let ⟨u,h1,h2⟩:=h;⟨u,h1,h2.gr hg⟩
def ei(H:Hp)(v:AC)(l:List Rl):Prop:=SlR RlR 2 H v l
def ei.gr{H H':Hp}{v:AC}{l:List Rl}(h:ei H v l)(hg:Gr H H'):ei H' v l:=SlR.fI h hg.nx (λi hi=>hg.get i hi aE) λ_ _ h=>h.gr hg
def ei.len{H:Hp}{v:AC}{l:List Rl}(h:ei H v l):eD H 1 (.one v)=.val (.one (.i .i64 (l.length:Int))) H:=SlR.len h
def ei.lt{H:Hp}{v:AC}{l:List Rl}(h:ei H v l):ltV (.one v) H.nx:=SlR.lt h
structure RlAt(H:Hp)(cells:List AC)(o:Nat)(x:Rl)(u:AC):Prop where
 of:SlI H u x.2
 all:(cells.drop o).take 2=[.i .i64 x.1,u]
 le:o+2<=cells.length
 le1:o+1<=cells.length
 le2:o+1+1<=cells.length
 f1:(cells.drop o).headD (.b false)=.i .i64 x.1
 f2:(cells.drop (o+1)).headD (.b false)=u
def abZ{cells:List AC}{o:Nat}{a b:AC}(h:(cells.drop o).take 2=[a,b]):(cells.drop o).headD (.b false)=a/\(cells.drop (o+1)).headD (.b false)=b:=by
 rw[<-js];match hd:cells.drop o,h with
 |x0::x1::r,h=>simp only[List.take_succ_cons,List.take_zero,tE,and_true]at h;obtain⟨rfl,rfl⟩:=h;exact⟨rfl,rfl⟩
def ei.open{H:Hp}{v:AC}{l:List Rl}(h:ei H v l)(hn:0<l.length):∃id g off cells,v=.o (.sl id g off l.length 2)/\id<H.nx/\rowOf (H.get id) g=some cells/\∀(i:Nat)(x:Rl),l[i]?=some x->∃u,RlAt H cells (off+i*2) x u:=by obtain⟨id,g,off,cells,h1,h2,h3,h4⟩:=SlR.open h hn;refine⟨id,g,off,cells,h1,h2,h3,λi x hx=>?_⟩;obtain⟨h5,c,h6,h7,u,rfl,h8⟩:=h4 i x hx;obtain⟨d1,d2⟩:=abZ h6;exact⟨u,h8,h6,h5,aa,aa,d1,d2⟩
abbrev Pz:=List Cl×List Rl
structure PzB(p:Pz):Prop where
 c:p.1.length*88<=140737488355328
 r:p.2.length*32<=140737488355328
 t:∀x∈p.1,x.2.2.2.1.length*32<=140737488355328/\x.2.2.2.2.length*32<=140737488355328
 p:∀x∈p.2,x.2.length*8<=140737488355328
def CO:ao prog 96=true:=ae
def bX(o:Option (List Lad))(s:List UInt8):Lad:=match o with|none=>([],[])|some ls=>(jX 0 ls s).elim ([],[]) λi=>ls.getD i ([],[])
def Ia.of{H:Hp}{c:List AC}{o:Option (List Lad)}{s:List UInt8}(h:Ia H c o s):∃u,c=[.o (.str (bX o s).1),u]/\SlP H u (bX o s).2:=by
 obtain⟨h1,h2⟩:=h;cases o with
 |none=>exact⟨_,h1 (by rw[Rq];decide),SlP.nil⟩
 |some ls=>
  rw[jZ]at h1;cases hi:jX 0 ls s with
  |none=>
   rw[hi]at h1;have e:bX (some ls) s=([],[]):=by unfold bX;simp only[hi,HM]
   rw[e];exact⟨_,h1 aU,SlP.nil⟩
  |some i=>
   obtain⟨x,hx,_⟩:=GB hi;have e:bX (some ls) s=x:=by unfold bX;simp only[hi,tz];rw[bt,hx];rfl
   rw[e];exact h2 ls i x rfl hi hx
def PG(acc:List Cl)(x:Cl):Bool:=acc.getLast?.any λy=>decide (x.1<=y.1)
def Cd{l:List Cl}{i:Nat}{x y:Cl}(hi:0<i)(hy:l[i-1]?=some y):PG (l.take i) x=decide (x.1<=y.1):=by
 have h:(l.take i).getLast?=some y:=by have B0:=(List.getElem?_eq_some_iff.1 hy).1;rw[Ak,dM,wW aa,mW,ad aa];exact hy
 unfold PG;rw[h];rfl
def goC(o:Option (List Lad)):List Cl->List Cl->Int
 |_,[]=>0
 |acc,x::l=>if x.1<0 then 53 else if 255<x.1 then 53 else if PG acc x=true then 53 else if nmB x.2.1=false then 53 else if lV o x.2.2.1≠0 then 4 else if kN x.2.2.2≠0 then kN x.2.2.2 else goC o (acc++[x]) l
def AQ(H:Hp)(k v:AC)(o:Option (List Lad))(l:List Cl)(hk:dN H k o)(hL:∀ls,o=some ls->∀x∈ls,x.2.length<=1000000)(hv:dD H v l)(hB:l.length<=1000000):
  Con E2 96 [.one k,.one v] H (λ_=>False) λr _=>r=.one (.i .i64 (goC o [] l)):=by
 refine Con.of rfl λlg=>?_;have hk:dN ⟨H.t,H.nx,lg⟩ k o:=dN.same (H:=H) rfl rfl hk;have hv:dD ⟨H.t,H.nx,lg⟩ v l:=hv;generalize(⟨H.t,H.nx,lg⟩:Hp)=H at hk hv |-
 refine C1.fD 62 [.tmp 4] Tryz.func96 λtm h0 h1=>?_;have fin:=rC E2 H 4 (goC o [] l);generalize C0:goC o [] l=r0 at fin;refine qW (zDg aj h0 h1 gq hv.len hv.lt) ?_;refine R1.bj λK k1 k2 k3 k4=>?_;refine R1.loop (λm A H2=>∃i:Nat,m=l.length-i/\i<=l.length/\Gr H H2/\goC o (l.take i) (l.drop i)=r0/\ky A.tm 0 1 10 (k) (v) (v) (jt A l.length (ng A i (A.nt=62/\A.dfr=[])))) ?_ l.length ⟨0,rfl,Nat.zero_le _,Fr.refl _,C0,?_⟩
 ·clear h0 h1 tm;rintro m A H2 ⟨i,rfl,hi,g2,hr,t0,t1,t10,t11,t12,z0,A0⟩;have G5:=hv.gr g2;have B3:=hk.gr g2;refine qW (zDe aj t11 t12 z0) ?_;refine qE λKx Ky hx hy=>?_;refine iI (λhc=>hx ?_) (λhc=>hy ?_)
  ·clear hx hy Kx Ky;have B0:i<l.length:=aa;have ex:=aA B0;have M0:=List.drop_eq_getElem_cons B0;have Y1:=cK B0;have D0:=bW B0;generalize l[i]=x at ex M0 Y1 D0;have X1:=bB i;obtain⟨id,g,off,cells,rfl,hid,W0,J0⟩:=G5.open aa;obtain⟨p,q,O0⟩:=J0 i x ex;rw[M0,goC]at hr;refine qV ?_;refine R1.bj λK2 q1 q2 q3 q4=>?_;refine qG (zDm aj t10 t12 z0 eV zw zV Ao (ixC B0) hid W0 (qA O0.all O0.le)) λK hK=>?_;apply hK;refine R1.gen (λA3 H3=>Gr H2 H3/\H2.nx<H3.nx/\H3.get H2.nx=some (.arr [.i .i64 x.1,.o (.str x.2.1),.o (.str x.2.2.1),p,q] 58 0 0)/\eQ A3.tm 0 1 (k) (.o (.sl id g off l.length 5)) (fu A3 i (eQ A3.tm 6 10 (.o (.ptr H2.nx 0 0 5)) (.o (.sl id g off l.length 5)) (jt A3 l.length (ng A3 i (A3.nt=62/\A3.dfr=[]))))))
    ⟨((Fr.refl _).new _).mod _ (.inl (ai _)),?_⟩ ?_
   ·exact qZ (zDh t0 t1 t10 t11 t12 z0 A0)
   clear t0 t1 t10 t11 t12 z0 A0 A;rintro A H3 ⟨g3,n3,rx,t0,t1,t5,t6,t10,t11,t12,z0,A0⟩;obtain⟨M,hM⟩:=dI H2.nx;rw[<-hM]at rx n3 t6;have hgr3:rowOf (H3.get id) g=some cells:=by rw[g3.get _ hid aE];exact W0
   have hid3:id<H3.nx:=ax hid g3.nx;have hk3:=B3.gr g3;have g13:=g2.gr g3;generalize O2:(if lV o x.2.2.1≠0 then 4 else if kN x.2.2.2≠0 then kN x.2.2.2 else goC o (l.take i++[x]) (l.drop (i+1)))=r1 at hr;repeat refine R1.aJ ?_
   (first|refine R1.Co ae λK hK=>?_|refine R1.CV ae λK hK=>?_)
   have rest:∀(b:Bool)(A4:ag)(H4:Hp),Gr H3 H4->(if b=true then 53 else r1)=r0->LC A4.tm 0 1 6 10 (k) (.o (.sl id g off l.length 5)) (.o (.ptr M 0 0 5)) (.o (.sl id g off l.length 5)) (jt A4 l.length (ng A4 i (eO A4 45 (.b b) 62 [])))->K A4 H4:=by
    clear hr t0 t1 t5 t6 t10 t11 t12 z0 A0 A;rintro b A H4 g4 hr ⟨t0,t1,t6,t10,t11,t12,t45,z0,A0⟩;apply hK;obtain⟨rx,n3⟩:=bD g4 n3 rx;have D8:=hk3.gr g4;have g14:=g13.gr g4;have g24:=g3.gr g4;clear g3;cases b with
    |true=>rw[ad rfl]at hr;refine qX t45 ?_;refine qW z0 ?_;exact q4 _ _ (k4 _ _ (fin (53) _ _ qp (qd A0) (g14) (hr)))
    |false=>
    rw[ab zA8,<-O2]at hr;refine qX t45 ?_;refine R1.bT ?_;refine qG (zDj aj t0 t6 z0 rx n3 gG bS xj) λK hK=>?_;refine WE.con (uA H4 k o x.2.2.1 D8 hL) λw H6 g6⟨c,hw,ha,S1⟩=>?_;subst hw;obtain⟨rx,n3⟩:=bD g6 n3 rx;have g6:=g24.gr g6;refine qS (zDf aj z0 gO kr S1) ?_;apply hK;refine R1.gen (λA7 H7=>Gr H2 H7/\H7.get M=some (.arr [.i .i64 x.1,.o (.str x.2.1),.o (.str x.2.2.1),p,q] 58 0 0)/\M<H7.nx/\ky A7.tm 0 1 6 (k) (.o (.sl id g off l.length 5)) (.o (.ptr M 0 0 5)) (lK A7 (lV o x.2.2.1) (slot A7.tm 10=.one (.o (.sl id g off l.length 5))/\jt A7 l.length (ng A7 i (A7.nt=62/\A7.dfr=[])))))
     ⟨(g6.new _).mod _ (.inl g6.nx),?_,?_,?_⟩ ?_
    ·rw[aB (Nat.ne_of_lt n3),bw n3];exact rx
    ·exact tx n3
    ·exact eo (zDi t0 t1 t6 t10 t11 t12 z0 A0)
    clear t0 t1 t6 t10 t11 t12 t45 z0 A0 A;rintro A H7 ⟨g7,rx,n7,t0,t1,t6,t8,t10,t11,t12,z0,A0⟩;generalize lV o x.2.2.1=e0 at hr t8;by_cases Y0:e0=0
    case neg=>have ce:(e0==0)=false:=aF Y0;rw[ad Y0]at hr;refine qW (zDe aj t8 z0 ce) ?_;refine qY ?_;refine qW z0 ?_;exact q4 _ _ (k4 _ _ (fin (4) _ _ qp (qd A0) (g2.gr g7) (hr)))
    rw[ab (λh=>h Y0)]at hr;have ce:(e0==0)=true:=by rw[Y0];rfl
    refine qW (zDe aj t8 z0 ce) ?_;refine qY ?_;refine R1.bT ?_;have hp7:=O0.of1.gr g7;have hq7:=O0.of2.gr g7;refine qG (zDi aj t6 z0 rx n7 DY Vk Iw) λK hK=>?_;refine WE.con (GV H7 p q x.2.2.2 hp7 hq7) λw H8 g8 hw=>?_;subst hw;have g8:=g7.gr g8;refine qS (qA aj z0) ?_;apply hK;generalize kN x.2.2.2=e1 at hr |-;by_cases L3:e1=0
    case neg=>have ce:(e1==0)=false:=aF L3;rw[ad L3]at hr;refine qW (zDd aj z0 ce) ?_;refine qY ?_;refine qW z0 ?_;exact q4 _ _ (k4 _ _ (fin (e1) _ _ qp (qd A0) (g2.gr g8) (hr)))
    rw[ab (λh=>h L3),<-Y1]at hr;have ce:(e1==0)=true:=by rw[L3];rfl
    refine qW (zDd aj z0 ce) ?_;refine qY ?_;refine qW z0 ?_;refine q1 _ _ ?_;refine qW (zDd z0 t12 X1) ?_;refine⟨l.length-(i+1),aa,i+1,rfl,B0,g2.gr g8,hr,?_⟩;exact eo (zDh t0 t1 t10 t11 t12 z0 A0)
   clear hK;by_cases c0:x.1<0
   ·rw[ad c0]at hr;have c0:=bH c0;refine qS (zDi aj t6 z0 rx n3 gF bF c0) ?_;refine rest true _ _ (Fr.refl _) hr ?_;exact eo (zDi t0 t1 t6 t10 t11 t12 z0 A0)
   rw[ab c0]at hr;by_cases c1:255<x.1
   ·rw[ad c1]at hr;have c0:=bh c0;have c1:(256<=x.1)=True:=bH aa;refine qS (zDj aj t6 z0 rx n3 gF bF c0 c1) ?_;refine rest true _ _ (Fr.refl _) hr ?_;exact eo (zDi t0 t1 t6 t10 t11 t12 z0 A0)
   rw[ab c1]at hr;have c0:=bh c0;have c1:(256<=x.1)=False:=bh aa;by_cases A6:i=0
   ·have ci:((0:Int)<(i:Int))=False:=bh aa;rw[A6,List.take_zero,ab (by exact zA8)]at hr;refine qS (zDm aj t5 t6 z0 rx n3 gF sS bF bS c0 (zDd c1 ci oI)) ?_;refine WE.fJ (rK x.2.1) λH4 g4 n4 e4=>?_;refine qS (qA aj z0) ?_;refine rest (!nmB x.2.1) _ _ g4 ?_ ?_
    ·rw[<-hr];cases nmB x.2.1<;>rfl
    exact eo (zDi t0 t1 t6 t10 t11 t12 z0 A0)
   have ci:((0:Int)<(i:Int))=True:=bH aa;have Y2:i-1<l.length:=aa;have ey:=aA Y2;have hpp:=λx=>Cd (x:=x) aa ey;generalize l[i-1]=y at ey hpp;obtain⟨p',q',J4⟩:=J0 (i-1) y ey;have O3:IntKind.i64.wrap ((i:Int)-1)=((i-1:Nat):Int):=by rw[gE aa aa];omega
   rw[hpp x]at hr;by_cases c2:x.1<=y.1
   ·rw[ad (bp c2)]at hr;have c2:=bH c2;refine qS (zDm aj t1 t5 t6 z0 rx n3 gF bF c0 c1 (zDj ci c2 O3 eV (ixC Y2) hid3 hgr3 J4.f1 J4.le1)) ?_;refine rest true _ _ (Fr.refl _) hr ?_;exact eo (zDi t0 t1 t6 t10 t11 t12 z0 A0)
   rw[ab (by rw[bI];exact c2)]at hr;have c2:=bh c2;refine qS (zDm aj t1 t5 t6 z0 rx n3 gF sS bF bS (zDm c0 c1 ci c2 O3 eV (ixC Y2) hid3 hgr3 J4.f1 J4.le1 oI)) ?_;refine WE.fJ (rK x.2.1) λH4 g4 n4 e4=>?_;refine qS (qA aj z0) ?_;refine rest (!nmB x.2.1) _ _ g4 ?_ ?_
   ·rw[<-hr];cases nmB x.2.1<;>rfl
   exact eo (zDi t0 t1 t6 t10 t11 t12 z0 A0)
  clear hx hy Kx Ky;have U0:i=l.length:=aa;rw[U0,ct,goC]at hr;refine qW z0 ?_;refine k2 _ _ ?_;refine qW z0 ?_;exact fin (0) _ _ qp (qd A0) (g2) (hr)
 exact eo (qA h0 h1)
def CP:ao prog 97=true:=ae
def ZU:∃z,aW prog 4=some z/\(ofValue z).cells=[.b false]:=⟨.bool false,jO,rfl⟩
def gX(lc:List Cl)(m:Int):List UInt8:=(lc[m.toNat]?).elim [] λx=>x.2.2.1
def yK(acc:List Int)(m:Int):Bool:=acc.getLast?.any λy=>decide (m<=y)
def Ce{l:List Int}{i:Nat}{x y:Int}(hi:0<i)(hy:l[i-1]?=some y):yK (l.take i) x=decide (x<=y):=by
 have h:(l.take i).getLast?=some y:=by have B0:=(List.getElem?_eq_some_iff.1 hy).1;rw[Ak,dM,wW aa,mW,ad aa];exact hy
 unfold yK;rw[h];rfl
def gK(lc:List Cl)(t:Int):List Int->List Int->Bool
 |_,[]=>true
 |acc,m::l=>if m<0 then false else if(lc.length:Int)<=m then false else if yK acc m=true then false else if gX lc m≠gX lc t then false else gK lc t (acc++[m]) l
def goR(lc:List Cl):List Int->List Int->List Rl->Bool
 |T,S,[]=>(List.range lc.length).all λj=>!(T.any (λx=>x==(j:Int))&&S.any λx=>x==(j:Int))
 |T,S,x::l=>if x.1<0 then false else if(lc.length:Int)<=x.1 then false else if T.any (λy=>y==x.1)=true then false else if gK lc x.1 [] x.2=false then false else goR lc (T++[x.1]) (S++x.2) l
def AS(H:Hp)(a b:AC)(lc:List Cl)(lr:List Rl)(ha:dD H a lc)(hb:ei H b lr)(hC:lc.length<=1000000)(hR:lr.length<=1000000)(hP:∀x∈lr,x.2.length<=4611686018427387904):
  Con E2 97 [.agg [a,b]] H (λ_=>False) λr _=>r=.one (.b (goR lc [] [] lr)):=by
 refine Con.qw (λH=>dD H a lc) ha (λH=>ei H b lr) hb λH ha hb=>?_;refine C1.jR 111 [.tmp 2] Tryz.func97 λtm h0=>?_;have fin:=CW E2 H 2 (goR lc [] [] lr);generalize C0:goR lc [] [] lr=r0 at fin;have hA:=ha;have hB:=hb;obtain⟨z,hz,z9⟩:=ZU;have mk:∀H,dY prog H 232 (.one (.i .i64 (lc.length:Int))) (.one (.i .i64 (lc.length:Int)))=.val (.one (.o (.sl H.nx 0 0 lc.length 1))) (H.new (.arr ((List.replicate lc.length false).map AC.b) 4 0 0)):=λH=>by rw[pE oN Yg hz (by rw[z9];rfl) aa,z9,wF,List.map_replicate]
 refine qG (qA aj h0) λK hK=>?_;apply hK;refine R1.gen (λA1 H1=>Gr H H1/\H.nx+1=H1.nx/\H1.get H.nx=some (.arr [a,b] 26 0 0)/\eZ A1 H.nx (A1.nt=111/\A1.dfr=[]))
  ⟨(Fr.refl _).new _,rfl,?_⟩ ?_
 ·exact qU
 rintro A1 H1 ⟨g1,n1,r1,t1,z0,A0⟩;clear h0 tm;obtain⟨N,hN⟩:=dI H.nx;rw[<-hN]at n1 r1 t1;have m1:N<H1.nx:=aa;have ha:=ha.gr g1;have hb:=hb.gr g1;refine qW (zDl aj t1 z0 r1 m1 bK cX gq ha.len ha.lt mk) ?_;refine R1.gen (λA2 H2=>Gr H1 H2/\N+3=H2.nx/\H2.get N=some (.arr [a,b] 26 0 0)/\H2.get (N+1)=some (.arr ((List.replicate lc.length false).map AC.b) 4 0 0)/\H2.get (N+2)=some (.arr ((List.replicate lc.length false).map AC.b) 4 0 0)/\eZ A2 N (iB A2 lc.length (sG A2 (N+1) lc.length (N+2) lc.length (A2.nt=111/\A2.dfr=[]))))
  ⟨((Fr.refl _).new _).new _,by show _=H1.nx+1+1;omega,?_,?_,?_,?_⟩ ?_
 ·rw[bw (by show _<H1.nx+1;omega),bw m1];exact r1
 ·rw[bw (by show _<H1.nx+1;omega)];exact aC n1
 ·exact aC (by show _=H1.nx+1;omega)
 ·rw[n1];have e2:N+2=H1.nx+1:=aa;rw[e2];exact eo (zDd t1 z0 A0)
 clear t1 z0 A0 A1;rintro A2 H2 ⟨g2,n2,r1,rs,rp,t1,t3,t4,t5,z0,A0⟩;clear m1 n1;have m1:N<H2.nx:=aa;have ha:=ha.gr g2;have hb:=hb.gr g2;have g2:=g1.gr g2;clear g1;have fits:∀{m:Int}{bs:List Bool},bs.length=lc.length->0<=m->m<lc.length->m.toNat+1<=(bs.map AC.b).length:=λh h1 h2=>by rw[cP,h];omega
 have put:∀{m:Int}{bs:List Bool},bs.length=lc.length->0<=m->m<lc.length->List.take m.toNat (List.map AC.b bs)++AC.b true::List.drop (m.toNat+1) (List.map AC.b bs)=(bs.set m.toNat true).map AC.b:=λh h1 h2=>setRow AC.b _ _ _ (by rw[h];omega);refine qW (zDk aj t1 z0 r1 m1 dZ ij jF hb.len hb.lt) ?_;refine R1.bj λK k1 k2 k3 k4=>?_;refine R1.loop (λm A H3=>∃(i:Nat)(T S:List Int)(bs ps:List Bool),m=lr.length-i/\i<=lr.length/\Gr H H3/\N+3<=H3.nx/\H3.get N=some (.arr [a,b] 26 0 0)/\H3.get (N+1)=some (.arr (bs.map AC.b) 4 0 0)/\H3.get (N+2)=some (.arr (ps.map AC.b) 4 0 0)/\Mk bs lc.length T/\Mk ps lc.length S/\goR lc T S (lr.drop i)=r0 /\
   slot A.tm 1=.one ((.o (.ptr N 0 0 2)))/\slot A.tm 3=.one (.i .i64 (lc.length:Int))/\slot A.tm 4=.one ((.o (.sl (N+1) 0 0 lc.length 1)))/\slot A.tm 5=.one ((.o (.sl (N+2) 0 0 lc.length 1)))/\slot A.tm 19=.one (b)/\slot A.tm 20=.one (.i .i64 (lr.length:Int))/\slot A.tm 21=.one (.i .i64 (i:Int))/\A.nt=111/\A.dfr=[]) ?_ lr.length
  ⟨0,[],[],_,_,rfl,Nat.zero_le _,g2,mZ n2,r1,rs,rp,Mk.nil _,Mk.nil _,C0,?_⟩
 ·clear t1 t3 t4 t5 z0 A0 A2 r1 rs rp C0;rintro m A H3 ⟨i,T,S,bs,ps,rfl,hi,g3,n3,r1,rs,rp,hT,hS,hr,t1,t3,t4,t5,t19,t20,t21,z0,A0⟩;have Y':=hB.gr g3;have m1:N<H3.nx:=aa;have o1:N+1<H3.nx:=aa;have o2:N+2<H3.nx:=aa;refine qW (zDe aj t20 t21 z0) ?_;refine qE λKx Ky hx hy=>?_;refine iI (λhc=>hx ?_) (λhc=>hy ?_)
  ·clear hx hy Kx Ky;have B0:i<lr.length:=aa;have ex:=aA B0;have M0:=List.drop_eq_getElem_cons B0;have Y1:=cK B0;have D0:=bW B0;generalize lr[i]=x at ex M0 Y1 D0;have X1:=bB i;obtain⟨id,g,off,cells,rfl,W2,G_,J0⟩:=hB.open aa;have hid:id<H3.nx:=ax W2 g3.nx;have W0:rowOf (H3.get id) g=some cells:=by rw[g3.get _ W2 aE];exact G_
   obtain⟨u,O0⟩:=J0 i x ex;have hu:=O0.of;have hPx:=hP x D0;rw[M0,goR]at hr;generalize D2:gK lc x.1 [] x.2=b1 at hr;generalize O2:(if b1=false then false else goR lc (T++[x.1]) (S++x.2) (lr.drop (i+1)))=r1' at hr;refine qV ?_;refine R1.bj λK2 q1 q2 q3 q4=>?_;refine qG (zDm aj t19 t21 z0 ri zx zY Ap (ixC B0) hid W0 (qA O0.all O0.le)) λK hK=>?_;apply hK;refine R1.gen (λA4 H4=>Gr H3 H4/\H3.nx<H4.nx/\H4.get H3.nx=some (.arr [.i .i64 x.1,u] 82 0 0)/\eZ A4 N (iB A4 lc.length (sG A4 (N+1) lc.length (N+2) lc.length (slot A4.tm 7=.one (.o (.ptr H3.nx 0 0 2))/\xU A4 id g off lr.length lr.length i (A4.nt=111/\A4.dfr=[])))))
    ⟨((Fr.refl _).new _).mod _ (.inl (ai _)),?_⟩ ?_
   ·exact qZ (zDj t1 t3 t4 t5 t19 t20 t21 z0 A0)
   clear t1 t3 t4 t5 t19 t20 t21 z0 A0 A;rintro A H4 ⟨g4,n4,rx,t1,t3,t4,t5,t7,t19,t20,t21,z0,A0⟩;obtain⟨M,hM⟩:=dI H3.nx;rw[<-hM]at rx n4 t7;obtain⟨r1,m1⟩:=bD g4 m1 r1;obtain⟨rs,o1⟩:=bD g4 o1 rs;obtain⟨rp,o2⟩:=bD g4 o2 rp;have g4:=g3.gr g4;clear W0 hid Y' O0 J0 W2 G_;repeat refine R1.aJ ?_
   (first|refine R1.sj λK hK=>?_|refine R1.Gn λK hK=>?_)
   have rest:∀(b:Bool)(A5:ag),(b=false->0<=x.1/\x.1<lc.length)->(if b=true then false else r1')=r0->eZ A5 N (iB A5 lc.length (sG A5 (N+1) lc.length (N+2) lc.length (slot A5.tm 7=.one (.o (.ptr M 0 0 2))/\xU A5 id g off lr.length lr.length i (eO A5 40 (.b b) 111 []))))->K A5 H4:=by
    clear hr t1 t3 t4 t5 t7 t19 t20 t21 z0 A0 A;rintro b A hxb hr ⟨t1,t3,t4,t5,t7,t19,t20,t21,t40,z0,A0⟩;apply hK;cases b with
    |true=>rw[ad rfl]at hr;refine qX t40 ?_;refine qW z0 ?_;exact q4 _ _ (k4 _ _ (fin (false) _ _ qp (qd A0) (g4) (hr)))
    |false=>
    rw[ab zA8]at hr;obtain⟨L4,C8⟩:=hxb rfl;refine qX t40 ?_;refine R1.bT ?_;refine qG (zDm aj t4 t7 z0 rx n4 rs o1 dv bF oN (zDf Qc (ixI L4 C8) cr (fits hT.1 L4 C8) (put hT.1 L4 C8))) λK hK=>?_;apply hK;have hT:=hT.set L4 C8;generalize bs.set x.1.toNat true=bs at hT |-;have g5:Gr H (H4.mod (N+1) (.arr (bs.map AC.b) 4 0 0)):=g4.mod _ (.inl aa);have r1:(H4.mod (N+1) (.arr (bs.map AC.b) 4 0 0)).get N=_:=(aB aa).trans r1;have rx:(H4.mod (N+1) (.arr (bs.map AC.b) 4 0 0)).get M=_:=(aB aa).trans rx;have rp:(H4.mod (N+1) (.arr (bs.map AC.b) 4 0 0)).get (N+2)=_:=(aB aa).trans rp;have rs:(H4.mod (N+1) (.arr (bs.map AC.b) 4 0 0)).get (N+1)=_:=aq rfl;have n5:M<(H4.mod (N+1) (.arr (bs.map AC.b) 4 0 0)).nx:=n4;generalize(H4.mod (N+1) (.arr (bs.map AC.b) 4 0 0))=H5 at g5 r1 rx rp rs n5 |-
    clear g4 n4 m1 o1 o2;have o6:=hu.gr g5;refine qG (zDk aj t7 z0 rx n5 gH jE sY o6.len o6.lt) λK hK=>?_;apply hK;refine R1.lS λK p1 p2 p3 p4=>?_;refine R1.loop (λm A H6=>∃(j:Nat)(ps:List Bool),m=x.2.length-j/\j<=x.2.length/\Gr H H6/\M<H6.nx/\H6.get N=some (.arr [a,.o (.sl id g off lr.length 2)] 26 0 0)/\H6.get (N+1)=some (.arr (bs.map AC.b) 4 0 0)/\H6.get (N+2)=some (.arr (ps.map AC.b) 4 0 0)/\H6.get M=some (.arr [.i .i64 x.1,u] 82 0 0)/\Mk ps lc.length (S++x.2.take j)/\gK lc x.1 (x.2.take j) (x.2.drop j)=b1 /\
     slot A.tm 1=.one ((.o (.ptr N 0 0 2)))/\slot A.tm 3=.one (.i .i64 (lc.length:Int))/\slot A.tm 4=.one ((.o (.sl (N+1) 0 0 lc.length 1)))/\slot A.tm 5=.one ((.o (.sl (N+2) 0 0 lc.length 1)))/\slot A.tm 7=.one ((.o (.ptr M 0 0 2)))/\slot A.tm 19=.one ((.o (.sl id g off lr.length 2)))/\slot A.tm 20=.one (.i .i64 (lr.length:Int))/\slot A.tm 21=.one (.i .i64 (i:Int))/\slot A.tm 46=.one (u)/\slot A.tm 47=.one (.i .i64 (x.2.length:Int))/\slot A.tm 48=.one (.i .i64 (j:Int))/\A.nt=111/\A.dfr=[]) ?_ x.2.length
     ⟨0,_,rfl,Nat.zero_le _,g5,n5,r1,rs,rp,rx,by rw[List.take_zero,List.append_nil];exact hS,D2,?_⟩
    ·clear t1 t3 t4 t5 t7 t19 t20 t21 t40 z0 A0 A hS r1 rs rp rx n5 o6 g5 D2;rintro m A H6 ⟨j,ps,rfl,hj,g6,n6,r1,rs,rp,rx,hS,D2,t1,t3,t4,t5,t7,t19,t20,t21,t46,t47,t48,z0,A0⟩;have m1:N<H6.nx:=aa;have o2:N+2<H6.nx:=aa;refine qW (zDe aj t47 t48 z0) ?_;refine qE λKx Ky hx hy=>?_;refine iI (λN9=>hx ?_) (λN9=>hy ?_)
     ·clear hx hy Kx Ky;have J9:j<x.2.length:=aa;have hdj:=List.drop_eq_getElem_cons J9;have htj:=cK J9;have ej:=aA J9;generalize x.2[j]=m at hdj htj ej;have hwj:=bB j;have I7:=hu.gr g6;have ha6:=hA.gr g6;obtain⟨ui,ug,uo,uc,rfl,E9,hug,hut⟩:=I7.open aa;have hm1:=hut j m ej;rw[hdj,gK]at D2;refine qV ?_;refine R1.bj λK3 w1 w2 w3 w4=>?_;refine qG (zDl aj t46 t48 z0 dp bF (ixC J9) E9 hug hm1.1 hm1.2) λK hK=>?_;apply hK;refine R1.gen (λA7 H7=>H7=H6/\eZ A7 N (iB A7 lc.length (sG A7 (N+1) lc.length (N+2) lc.length (slot A7.tm 7=.one (.o (.ptr M 0 0 2))/\lK A7 j (slot A7.tm 9=.one (.i .i64 (m:Int))/\xU A7 id g off lr.length lr.length i (oA A7 46 47 48 (.o (.sl ui ug uo x.2.length 1)) (.i .i64 (x.2.length:Int)) (.i .i64 (j:Int)) 111 []))))))
       ⟨rfl,?_⟩ ?_
      ·exact eo (zDm t1 t3 t4 t5 t7 t19 t20 t21 t46 t47 t48 (qA z0 A0))
      clear t1 t3 t4 t5 t7 t19 t20 t21 t46 t47 t48 z0 A0 A;rintro A H7 ⟨rfl,t1,t3,t4,t5,t7,t8,t9,t19,t20,t21,t46,t47,t48,z0,A0⟩;generalize Z6:gK lc x.1 (x.2.take j++[m]) (x.2.drop (j+1))=b2 at D2;repeat refine R1.aJ ?_
      (first|refine R1.Co ae λK hK=>?_|refine R1.CV ae λK hK=>?_)
      have rest2:∀(b:Bool)(A8:ag),(b=false->0<=m/\m<lc.length)->(if b=true then false else b2)=b1->eZ A8 N (iB A8 lc.length (sG A8 (N+1) lc.length (N+2) lc.length (eQ A8.tm 7 9 (.o (.ptr M 0 0 2)) (.i .i64 (m:Int)) (xU A8 id g off lr.length lr.length i (xe A8 46 47 48 89 (.o (.sl ui ug uo x.2.length 1)) (.i .i64 (x.2.length:Int)) (.i .i64 (j:Int)) (.b b) 111 [])))))->K A8 H7:=by
       clear D2 t1 t3 t4 t5 t7 t8 t9 t19 t20 t21 t46 t47 t48 z0 A0 A;rintro b A hmb D2 ⟨t1,t3,t4,t5,t7,t9,t19,t20,t21,t46,t47,t48,t89,z0,A0⟩;apply hK;cases b with
       |true=>rw[ad rfl]at D2;rw[<-D2,ad rfl]at O2;rw[<-O2]at hr;refine qX t89 ?_;refine qW z0 ?_;exact w4 _ _ (p4 _ _ (q4 _ _ (k4 _ _ (fin (false) _ _ qp (qd A0) (g6) (hr)))))
       |false=>
       rw[ab zA8,<-Z6,<-htj]at D2;obtain⟨O',Z_⟩:=hmb rfl;refine qX t89 ?_;refine R1.bT ?_;refine qG (zDm aj t5 t9 z0 rp o2 oN Qc (ixI O' Z_) cr (fits hS.1 O' Z_) (put hS.1 O' Z_)) λK hK=>?_;apply hK;refine w1 _ _ ?_;refine qW (zDd z0 t48 hwj) ?_;have hS:=hS.set O' Z_;rw[bL,<-htj]at hS;refine⟨x.2.length-(j+1),aa,j+1,ps.set m.toNat true,rfl,J9,g6.mod _ (.inl aa),n6,(aB aa).trans r1,(aB aa).trans rs,aq rfl,(aB aa).trans rx,hS,D2,?_⟩;exact eo (zDm t1 t3 t4 t5 t7 t19 t20 t21 t46 t47 t48 (qA z0 A0))
      clear hK;by_cases c0:m<0
      ·rw[ad c0]at D2;have c0:=bH c0;refine qS (zDe aj t9 z0 c0) ?_;refine rest2 true _ (λh=>by cases h) D2 ?_;exact eo (zDm t1 t3 t4 t5 t7 t9 t19 t20 t21 t46 t47 (zDd t48 z0 A0))
      rw[ab c0]at D2;by_cases c1:(lc.length:Int)<=m
      ·rw[ad c1]at D2;have c0:=bh c0;have c1:=bH c1;refine qS (zDg aj t3 t9 z0 c0 c1) ?_;refine rest2 true _ (λh=>by cases h) D2 ?_;exact eo (zDm t1 t3 t4 t5 t7 t9 t19 t20 t21 t46 t47 (zDd t48 z0 A0))
      rw[ab c1]at D2;have O':0<=m:=aa;have Z_:m<lc.length:=aa;have c0:=bh c0;have c1:=bh c1;obtain⟨ci,cg,co,cc,rfl,M9,hcg,hct⟩:=ha6.open aa;have em:lc[m.toNat]?=some lc[m.toNat]:=aA aa;have et:lc[x.1.toNat]?=some lc[x.1.toNat]:=aA aa;have lm:gX lc m=lc[m.toNat].2.2.1:=by unfold gX;rw[em];rfl
      have lt:gX lc x.1=lc[x.1.toNat].2.2.1:=by unfold gX;rw[et];rfl
      rw[lm,lt]at D2;generalize lc[m.toNat]=ym at em D2;generalize lc[x.1.toNat]=yt at et D2;obtain⟨_,_,T9⟩:=hct _ _ em;obtain⟨_,_,hyt⟩:=hct _ _ et;have m2:M<H7.nx:=n6;have last:∀(d:Bool),(if ym.2.2.1≠yt.2.2.1 then false else b2)=b1->lEq ym.2.2.1 yt.2.2.1=d->(if(!d)=true then false else b2)=b1:=λd h e=>by
       rw[fF]at e;cases d with
       |true=>rw[ab (λhn=>hn (eq_of_beq e))]at h;exact h
       |false=>rw[ad (ne_of_beq_false e)]at h;exact h
      generalize hle:lEq ym.2.2.1 yt.2.2.1=d at last;by_cases hj0:j=0
      ·have cj:((0:Int)<(j:Int))=False:=bh aa;rw[hj0,List.take_zero,ab (by exact zA8)]at D2;refine qS (zDm aj t1 t3 t7 t8 t9 z0 c0 c1 cj r1 (zDm m1 rx m2 bK cX eV gG bS dv bF (ixI O' Z_) (zDi (ixI L4 C8) M9 hcg T9.f3 T9.le3 hyt.f3 hyt.le3 hle))) ?_;refine rest2 (!d) _ (λ_=>⟨O',Z_⟩) (last d D2 rfl) ?_;exact eo (zDm t1 t3 t4 t5 t7 t9 t19 t20 t21 t46 t47 (zDd t48 z0 A0))
      have cj:((0:Int)<(j:Int))=True:=bH aa;have Y2:j-1<x.2.length:=aa;have ey:=aA Y2;have hpp:=λz=>Ce (x:=z) aa ey;generalize x.2[j-1]=y at ey hpp;have J4:=hut (j-1) y ey;have O3:IntKind.i64.wrap ((j:Int)-1)=((j-1:Nat):Int):=by rw[gE aa aa];omega
      rw[hpp m]at D2;by_cases c2:m<=y
      ·rw[ad (bp c2)]at D2;have c2:=bH c2;refine qS (zDm aj t3 t7 t8 t9 z0 c0 c1 cj c2 O3 (zDl rx m2 gH jE dp bF (ixC Y2) E9 hug J4.1 J4.2)) ?_;refine rest2 true _ (λh=>by cases h) D2 ?_;exact eo (zDm t1 t3 t4 t5 t7 t9 t19 t20 t21 t46 t47 (zDd t48 z0 A0))
      rw[ab (by rw[bI];exact c2)]at D2;have c2:=bh c2;refine qS (zDm aj t1 t3 t7 t8 t9 z0 c0 c1 cj c2 (zDm O3 r1 m1 rx m2 bK cX eV gG bS dv (zDm gH jE dp bF (ixC Y2) E9 hug J4.1 J4.2 (ixI O' Z_) (ixI L4 C8) (zDh M9 hcg T9.f3 T9.le3 hyt.f3 hyt.le3 hle)))) ?_;refine rest2 (!d) _ (λ_=>⟨O',Z_⟩) (last d D2 rfl) ?_;exact eo (zDm t1 t3 t4 t5 t7 t9 t19 t20 t21 t46 t47 (zDd t48 z0 A0))
     clear hx hy Kx Ky;have hje:j=x.2.length:=aa;rw[hje,ct,gK]at D2;rw[hje,pZ]at hS;rw[<-D2,ab aU]at O2;rw[<-O2]at hr;refine qW z0 ?_;refine p2 _ _ (q1 _ _ ?_);refine qW (zDd z0 t21 X1) ?_;refine⟨lr.length-(i+1),aa,i+1,T++[x.1],S++x.2,bs,ps,rfl,B0,g6,aa,r1,rs,rp,hT,hS,hr,?_⟩;exact eo (zDj t1 t3 t4 t5 t19 t20 t21 z0 A0)
    exact eo (zDk t1 t3 t4 t5 t7 t19 t20 t21 z0 A0)
   clear hK;by_cases c0:x.1<0
   ·rw[ad c0]at hr;have c0:=bH c0;refine qS (zDi aj t7 z0 rx n4 dv bF c0) ?_;refine rest true _ (λh=>by cases h) hr ?_;exact eo (zDk t1 t3 t4 t5 t7 t19 t20 t21 z0 A0)
   rw[ab c0]at hr;by_cases c1:(lc.length:Int)<=x.1
   ·rw[ad c1]at hr;have c0:=bh c0;have c1:=bH c1;refine qS (zDk aj t3 t7 z0 rx n4 dv bF c0 c1) ?_;refine rest true _ (λh=>by cases h) hr ?_;exact eo (zDk t1 t3 t4 t5 t7 t19 t20 t21 z0 A0)
   rw[ab c1]at hr;have L4:0<=x.1:=aa;have C8:x.1<lc.length:=aa;have c0:=bh c0;have c1:=bh c1;refine qS (zDm aj t3 t4 t7 z0 rx n4 rs o1 dv bF (zDj lW c0 c1 oN (ixI L4 C8) cr (fits hT.1 L4 C8) Gz (hT.at L4 C8))) ?_;refine rest (T.any λy=>y==x.1) _ (λ_=>⟨L4,C8⟩) hr ?_;exact eo (zDk t1 t3 t4 t5 t7 t19 t20 t21 z0 A0)
  clear hx hy Kx Ky;have U0:i=lr.length:=aa;rw[U0,ct,goR]at hr;have bad:∀j:Nat,j<lc.length->((T.any λx=>x==(j:Int))&&S.any λx=>x==(j:Int))=true->false=r0:=λj hj h=>by rw[<-hr];exact(List.all_eq_false.2 ⟨j,List.mem_range.2 hj,by rw[h];decide⟩).symm
  have good:(∀j:Nat,j<lc.length->((T.any λx=>x==(j:Int))&&S.any λx=>x==(j:Int))=false)->true=r0:=λh=>by rw[<-hr];exact(List.all_eq_true.2 λj hj=>by rw[h j (List.mem_range.1 hj)];rfl).symm
  clear hr;refine qW z0 ?_;refine k2 _ _ ?_;clear k1 k2 k3 k4 K;refine qW (zDf aj t4 z0 Vt o1) ?_;refine R1.bj λK k1 k2 k3 k4=>?_;refine R1.loop (λm A H4=>∃j:Nat,m=lc.length-j/\j<=lc.length/\H4=H3/\(∀j':Nat,j'<j->((T.any λx=>x==(j':Int))&&S.any λx=>x==(j':Int))=false)/\sG A (N+1) lc.length (N+2) lc.length (nu A 96 97 (.i .i64 (lc.length:Int)) (.i .i64 (j:Int)) 111 [])) ?_ lc.length
   ⟨0,rfl,Nat.zero_le _,rfl,λj' h=>absurd h (Nat.not_lt_zero _),?_⟩
  ·clear t1 t3 t4 t5 t19 t20 t21 z0 A0 A;rintro m A H4 ⟨j,rfl,hj,rfl,V2,t4,t5,t96,t97,z0,A0⟩;refine qW (zDe aj t96 t97 z0) ?_;refine qE λKx Ky hx hy=>?_;refine iI (λhc=>hx ?_) (λhc=>hy ?_)
   ·clear hx hy Kx Ky;have J9:j<lc.length:=aa;have hwj:=bB j;have L9:j+1<=(bs.map AC.b).length:=by rw[cP,hT.1];exact J9
    have hf2:j+1<=(ps.map AC.b).length:=by rw[cP,hS.1];exact J9
    have e1:=hT.2 j J9;have e2:=hS.2 j J9;have hb0:=bad j J9;have J5:((T.any λx=>x==(j:Int))&&S.any λx=>x==(j:Int))=false->∀j':Nat,j'<j+1->((T.any λx=>x==(j':Int))&&S.any λx=>x==(j':Int))=false:=λh j' y7=>by
     rcases Nat.lt_or_eq_of_le (Nat.le_of_lt_succ y7)with h'|h'
     ·exact V2 j' h'
     rw[h'];exact h
    generalize(T.any λx=>x==(j:Int))=d1 at e1 hb0 J5
    generalize(S.any λx=>x==(j:Int))=d2 at e2 hb0 J5
    refine qV ?_;refine R1.bj λK2 q1 q2 q3 q4=>?_;refine qW (zDd aj t97 z0) ?_;cases d1 with
    |false=>refine qG (zDm aj t4 t97 z0 rs o1 oN lW (ixC J9) cr L9 (qA Gz e1)) λK hK=>?_;apply hK;refine qY ?_;refine qW z0 ?_;refine q1 _ _ ?_;refine qW (zDd z0 t97 hwj) ?_;refine⟨lc.length-(j+1),aa,j+1,rfl,J9,rfl,J5 rfl,?_⟩;exact eo (zDg t4 t5 t96 t97 z0 A0)
    |true=>
     refine qG (zDm aj t4 t5 t97 z0 rs o1 rp o2 oN lW (zDh (ixC J9) cr L9 hf2 Gz e1 e2)) λK hK=>?_;apply hK;cases d2 with
     |true=>refine qY ?_;refine qW z0 ?_;exact q4 _ _ (k4 _ _ (fin (false) _ _ qp (qd A0) (g3) (hb0 rfl)))
     |false=>refine qY ?_;refine qW z0 ?_;refine q1 _ _ ?_;refine qW (zDd z0 t97 hwj) ?_;refine⟨lc.length-(j+1),aa,j+1,rfl,J9,rfl,J5 rfl,?_⟩;exact eo (zDg t4 t5 t96 t97 z0 A0)
   clear hx hy Kx Ky;have hje:j=lc.length:=aa;rw[hje]at V2;refine qW z0 ?_;refine k2 _ _ ?_;refine qW z0 ?_;exact fin (true) _ _ qp (qd A0) (g3) (good V2)
  exact eo (zDe t4 t5 z0 A0)
 exact eo (zDg t1 t3 t4 t5 z0 A0)
def sK:ao prog 73=true:=ae
def QE:ao prog 163=true:=ae
def fv:Nat->List Rl->Int->Int
 |_,[],_=>-1
 |n,x::l,t=>if x.1=t then(n:Int)else fv (n+1) l t
def mR(H:Hp)(a b:AC)(lr:List Rl)(t:Int)(hb:ei H b lr)(ha:ltV (.one a) H.nx)(hR:lr.length<=1000000):
  Con E2 73 [.agg [a,b],.one (.i .i64 t)] H (λ_=>False) λr _=>r=.one (.i .i64 (fv 0 lr t)):=by
 refine Con.lT (λH=>ei H b lr) hb λH hb=>?_;refine C1.fD 22 [.tmp 4] Tryz.func73 λtm h0 h1=>?_;have fin:=rC E2 H 4 (fv 0 lr t);generalize C0:fv 0 lr t=r0 at fin;refine qG (zDd aj h0 h1) λK hK=>?_;apply hK;refine R1.gen (λA1 H1=>Gr H H1/\H.nx<H1.nx/\H1.get H.nx=some (.arr [a,b] 26 0 0)/\dm A1 t (fb A1 H.nx (A1.nt=22/\A1.dfr=[])))
  ⟨(Fr.refl _).new _,?_⟩ ?_
 ·exact qZ h1
 rintro A1 H1 ⟨g1,m1,r1,t1,t2,z0,A0⟩;clear h0 h1 tm;have hb:=hb.gr g1;refine qW z0 ?_;refine R1.bj λK k1 k2 k3 k4=>?_;refine R1.loop (λm A H2=>∃i:Nat,m=lr.length-i/\i<=lr.length/\H2=H1/\fv i (lr.drop i) t=r0/\dm A t (fb A H.nx (fu A i (A.nt=22/\A.dfr=[])))) ?_ lr.length ⟨0,rfl,Nat.zero_le _,rfl,C0,?_⟩
 ·clear t1 t2 z0 A0 A1;rintro m A H2 ⟨i,rfl,hi,rfl,hr,t1,t2,t5,z0,A0⟩;refine qW (zDl aj t2 t5 z0 r1 m1 dZ ij jF hb.len hb.lt) ?_;refine qE λKx Ky hx hy=>?_;refine iI (λhc=>hx ?_) (λhc=>hy ?_)
  ·clear hx hy Kx Ky;have B0:i<lr.length:=aa;have ex:=aA B0;have M0:=List.drop_eq_getElem_cons B0;have Y1:=cK B0;have D0:=bW B0;generalize lr[i]=x at ex M0 Y1 D0;have X1:=bB i;obtain⟨id,g,off,cells,rfl,hid,W0,J0⟩:=hb.open aa;obtain⟨u,O0⟩:=J0 i x ex;rw[M0,fv]at hr;refine qV ?_;refine R1.bj λK2 q1 q2 q3 q4=>?_;refine qG (zDm aj t1 t2 t5 z0 r1 m1 dZ ij ri dv (zDg bF (ixC B0) hid W0 O0.f1 O0.le1)) λK hK=>?_;apply hK;by_cases he:x.1=t
   ·have ce:(x.1==t)=true:=by rw[he];exact dk _
    rw[ad he]at hr;refine qX ce ?_;refine qW (qA z0 t5) ?_;exact q4 _ _ (k4 _ _ (fin ((i:Int)) _ _ qp (qd A0) (g1) (hr)))
   have ce:(x.1==t)=false:=aF he;rw[ab he]at hr;refine qX ce ?_;refine qW z0 ?_;refine q1 _ _ ?_;refine qW (zDd z0 t5 X1) ?_;refine⟨lr.length-(i+1),aa,i+1,rfl,B0,rfl,hr,?_⟩;exact eo (zDf t1 t2 t5 z0 A0)
  clear hx hy Kx Ky;have U0:i=lr.length:=aa;rw[U0,ct,fv]at hr;refine qW z0 ?_;refine k2 _ _ ?_;refine qW z0 ?_;exact fin (-1) _ _ qp (qd A0) (g1) (hr)
 exact eo (zDe t1 t2 z0 A0)
def pM(lc:List Cl)(lr:List Rl)(t:Int):List Int->List Int->Bool
 |_,[]=>true
 |acc,m::l=>if m<0 then false else if(lc.length:Int)<=m then false else if yK acc m=true then false else if gX lc m≠gX lc t then false else if 0<=fv 0 lr m then false else pM lc lr t (acc++[m]) l
def xH(lc:List Cl)(lr:List Rl):Nat->List Rl->Bool
 |_,[]=>true
 |i,x::l=>if x.1<0 then false else if(lc.length:Int)<=x.1 then false else if fv 0 lr x.1≠(i:Int)then false else if pM lc lr x.1 [] x.2=false then false else xH lc lr (i+1) l
def MY(H:Hp)(a b:AC)(lc:List Cl)(lr:List Rl)(ha:dD H a lc)(hb:ei H b lr)(hC:lc.length<=1000000)(hR:lr.length<=1000000)(hP:∀x∈lr,x.2.length<=4611686018427387904):
  Con E2 163 [.agg [a,b]] H (λ_=>False) λr _=>r=.one (.b (xH lc lr 0 lr)):=by
 refine Con.qw (λH=>dD H a lc) ha (λH=>ei H b lr) hb λH ha hb=>?_;refine C1.jR 95 [.tmp 2] Tryz.func163 λtm h0=>?_;have fin:=CW E2 H 2 (xH lc lr 0 lr);generalize C0:xH lc lr 0 lr=r0 at fin;have hA:=ha;have hB:=hb;refine qG (qA aj h0) λK hK=>?_;apply hK;refine R1.gen (λA1 H1=>Gr H H1/\H.nx<H1.nx/\H1.get H.nx=some (.arr [a,b] 26 0 0)/\eZ A1 H.nx (A1.nt=95/\A1.dfr=[]))
  ⟨(Fr.refl _).new _,?_⟩ ?_
 ·exact qU
 rintro A1 H1 ⟨g1,m1,r1,t1,z0,A0⟩;clear h0 tm;obtain⟨N,hN⟩:=dI H.nx;rw[<-hN]at m1 r1 t1;have ha:=ha.gr g1;have hb:=hb.gr g1;refine qW (zDk aj t1 z0 r1 m1 bK cX gq ha.len ha.lt) ?_;refine R1.bj λK k1 k2 k3 k4=>?_;refine R1.loop (λm A H3=>∃i:Nat,m=lr.length-i/\i<=lr.length/\Gr H H3/\N<H3.nx/\H3.get N=some (.arr [a,b] 26 0 0)/\xH lc lr i (lr.drop i)=r0 /\
   slot A.tm 1=.one ((.o (.ptr N 0 0 2)))/\slot A.tm 3=.one (.i .i64 (lc.length:Int))/\slot A.tm 4=.one (.i .i64 (i:Int))/\A.nt=95/\A.dfr=[]) ?_ lr.length
  ⟨0,rfl,Nat.zero_le _,g1,m1,r1,C0,?_⟩
 ·clear t1 z0 A0 A1 r1 m1;rintro m A H3 ⟨i,rfl,hi,g3,m1,r1,hr,t1,t3,t4,z0,A0⟩;have Y':=hB.gr g3;refine qW (zDl aj t1 t4 z0 r1 m1 dZ ij jF Y'.len Y'.lt) ?_;refine qE λKx Ky hx hy=>?_;refine iI (λhc=>hx ?_) (λhc=>hy ?_)
  ·clear hx hy Kx Ky;have B0:i<lr.length:=aa;have ex:=aA B0;have M0:=List.drop_eq_getElem_cons B0;have Y1:=cK B0;have D0:=bW B0;generalize lr[i]=x at ex M0 Y1 D0;have X1:=bB i;obtain⟨id,g,off,cells,rfl,W2,G_,J0⟩:=hB.open aa;have hid:id<H3.nx:=ax W2 g3.nx;have W0:rowOf (H3.get id) g=some cells:=by rw[g3.get _ W2 aE];exact G_
   obtain⟨u,O0⟩:=J0 i x ex;have hu:=O0.of;have hPx:=hP x D0;rw[M0,xH]at hr;generalize D2:pM lc lr x.1 [] x.2=b1 at hr;generalize O2:(if b1=false then false else xH lc lr (i+1) (lr.drop (i+1)))=r1' at hr;refine qV ?_;refine R1.bj λK2 q1 q2 q3 q4=>?_;refine qG (zDm aj t1 t4 z0 r1 m1 dZ ij ri zx zY (zDg Ap (ixC B0) hid W0 O0.all O0.le)) λK hK=>?_;apply hK;refine R1.gen (λA4 H4=>Gr H3 H4/\H3.nx<H4.nx/\H4.get H3.nx=some (.arr [.i .i64 x.1,u] 82 0 0)/\eZ A4 N (jz A4 lc.length i (eO A4 5 (.o (.ptr H3.nx 0 0 2)) 95 [])))
    ⟨((Fr.refl _).new _).mod _ (.inl (ai _)),?_⟩ ?_
   ·exact qZ (zDf t1 t3 t4 z0 A0)
   clear t1 t3 t4 z0 A0 A;rintro A H4 ⟨g4,n4,rx,t1,t3,t4,t5,z0,A0⟩;obtain⟨M,hM⟩:=dI H3.nx;rw[<-hM]at rx n4 t5;obtain⟨r1,m1⟩:=bD g4 m1 r1;have g4:=g3.gr g4;clear W0 hid Y' O0 J0 W2 G_;repeat refine R1.aJ ?_
   (first|refine R1.sj λK hK=>?_|refine R1.Gn λK hK=>?_)
   have rest:∀(b:Bool)(A5:ag)(H5:Hp),Gr H4 H5->(b=false->0<=x.1/\x.1<lc.length)->(if b=true then false else r1')=r0->eZ A5 N (jz A5 lc.length i (nu A5 5 39 (.o (.ptr M 0 0 2)) (.b b) 95 []))->K A5 H5:=by
    clear hr t1 t3 t4 t5 z0 A0 A;rintro b A H5 g5 hxb hr ⟨t1,t3,t4,t5,t39,z0,A0⟩;apply hK;obtain⟨r1,m1⟩:=bD g5 m1 r1;obtain⟨rx,n4⟩:=bD g5 n4 rx;have g5:=g4.gr g5;cases b with
    |true=>rw[ad rfl]at hr;refine qX t39 ?_;refine qW z0 ?_;exact q4 _ _ (k4 _ _ (fin (false) _ _ qp (qd A0) (g5) (hr)))
    |false=>
    rw[ab zA8]at hr;obtain⟨L4,C8⟩:=hxb rfl;refine qX t39 ?_;refine R1.bT ?_;refine qW z0 ?_;refine R1.lS λK p1 p2 p3 p4=>?_;refine R1.loop (λm A H6=>∃j:Nat,m=x.2.length-j/\j<=x.2.length/\Gr H H6/\M<H6.nx/\H6.get N=some (.arr [a,.o (.sl id g off lr.length 2)] 26 0 0)/\H6.get M=some (.arr [.i .i64 x.1,u] 82 0 0)/\pM lc lr x.1 (x.2.take j) (x.2.drop j)=b1 /\
     slot A.tm 1=.one ((.o (.ptr N 0 0 2)))/\slot A.tm 3=.one (.i .i64 (lc.length:Int))/\slot A.tm 4=.one (.i .i64 (i:Int))/\slot A.tm 5=.one ((.o (.ptr M 0 0 2)))/\slot A.tm 6=.one (.i .i64 (j:Int))/\A.nt=95/\A.dfr=[]) ?_ x.2.length
     ⟨0,rfl,Nat.zero_le _,g5,n4,r1,rx,D2,?_⟩
    ·clear t1 t3 t4 t5 t39 z0 A0 A r1 rx n4 g4 g5 D2 m1;rintro m A H6 ⟨j,rfl,hj,g6,n6,r1,rx,D2,t1,t3,t4,t5,t6,z0,A0⟩;have m1:N<H6.nx:=aa;have I7:=hu.gr g6;refine qW (zDl aj t5 t6 z0 rx n6 gH jE sY I7.len I7.lt) ?_;refine qE λKx Ky hx hy=>?_;refine iI (λN9=>hx ?_) (λN9=>hy ?_)
     ·clear hx hy Kx Ky;have J9:j<x.2.length:=aa;have hdj:=List.drop_eq_getElem_cons J9;have htj:=cK J9;have ej:=aA J9;generalize x.2[j]=m at hdj htj ej;have hwj:=bB j;have ha6:=hA.gr g6;have hb6:=hB.gr g6;obtain⟨ui,ug,uo,uc,rfl,E9,hug,hut⟩:=I7.open aa;have hm1:=hut j m ej;rw[hdj,pM]at D2;refine qV ?_;refine R1.bj λK3 w1 w2 w3 w4=>?_;refine qG (zDm aj t5 t6 z0 rx n6 gH jE dp bF (ixC J9) (zDe E9 hug hm1.1 hm1.2)) λK hK=>?_;apply hK;refine R1.gen (λA7 H7=>H7=H6/\eZ A7 N (jz A7 lc.length i (eQ A7.tm 5 6 (.o (.ptr M 0 0 2)) (.i .i64 (j:Int)) (gU A7 m (A7.nt=95/\A7.dfr=[])))))
       ⟨rfl,?_⟩ ?_
      ·exact eo (zDh t1 t3 t4 t5 t6 z0 A0)
      clear t1 t3 t4 t5 t6 z0 A0 A;rintro A H7 ⟨rfl,t1,t3,t4,t5,t6,t7,z0,A0⟩;generalize Z6:pM lc lr x.1 (x.2.take j++[m]) (x.2.drop (j+1))=b2 at D2;repeat refine R1.aJ ?_
      (first|refine R1.Co ae λK hK=>?_|refine R1.CV ae λK hK=>?_)
      have rest2:∀(b:Bool)(A8:ag)(H8:Hp),Gr H7 H8->(if b=true then false else b2)=b1->eZ A8 N (jz A8 lc.length i (oA A8 5 6 94 (.o (.ptr M 0 0 2)) (.i .i64 (j:Int)) (.b b) 95 []))->K A8 H8:=by
       clear D2 t1 t3 t4 t5 t6 t7 z0 A0 A;rintro b A H8 g8 D2 ⟨t1,t3,t4,t5,t6,t94,z0,A0⟩;apply hK;obtain⟨r1,m1⟩:=bD g8 m1 r1;obtain⟨rx,n6⟩:=bD g8 n6 rx;have g8:=g6.gr g8;cases b with
       |true=>rw[ad rfl]at D2;rw[<-D2,ad rfl]at O2;rw[<-O2]at hr;refine qX t94 ?_;refine qW z0 ?_;exact w4 _ _ (p4 _ _ (q4 _ _ (k4 _ _ (fin (false) _ _ qp (qd A0) (g8) (hr)))))
       |false=>
       rw[ab zA8,<-Z6,<-htj]at D2;refine qX t94 ?_;refine qW z0 ?_;refine w1 _ _ ?_;refine qW (zDd z0 t6 hwj) ?_;refine⟨x.2.length-(j+1),aa,j+1,rfl,J9,g8,n6,r1,rx,D2,?_⟩;exact eo (zDh t1 t3 t4 t5 t6 z0 A0)
      clear hK;by_cases c0:m<0
      ·rw[ad c0]at D2;have c0:=bH c0;refine qS (zDe aj t7 z0 c0) ?_;refine rest2 true _ _ (Fr.refl _) D2 ?_;exact eo (zDh t1 t3 t4 t5 t6 z0 A0)
      rw[ab c0]at D2;by_cases c1:(lc.length:Int)<=m
      ·rw[ad c1]at D2;have c0:=bh c0;have c1:=bH c1;refine qS (zDg aj t3 t7 z0 c0 c1) ?_;refine rest2 true _ _ (Fr.refl _) D2 ?_;exact eo (zDh t1 t3 t4 t5 t6 z0 A0)
      rw[ab c1]at D2;have O':0<=m:=aa;have Z_:m<lc.length:=aa;have c0:=bh c0;have c1:=bh c1;obtain⟨ci,cg,co,cc,rfl,M9,hcg,hct⟩:=ha6.open aa;have em:lc[m.toNat]?=some lc[m.toNat]:=aA aa;have et:lc[x.1.toNat]?=some lc[x.1.toNat]:=aA aa;have lm:gX lc m=lc[m.toNat].2.2.1:=by unfold gX;rw[em];rfl
      have lt:gX lc x.1=lc[x.1.toNat].2.2.1:=by unfold gX;rw[et];rfl
      rw[lm,lt]at D2;generalize lc[m.toNat]=ym at em D2;generalize lc[x.1.toNat]=yt at et D2;obtain⟨_,_,T9⟩:=hct _ _ em;obtain⟨_,_,hyt⟩:=hct _ _ et;have m2:M<H7.nx:=n6;have last:(if 0<=fv 0 lr m then false else b2)=b1->(if decide (0<=fv 0 lr m)=true then false else b2)=b1:=λh=>by
       by_cases h0:0<=fv 0 lr m
       ·rw[ad h0]at h;rw[ad (bp h0)];exact h
       rw[ab h0]at h;rw[ab (by rw[bI];exact h0)];exact h
      by_cases hj0:j=0
      ·have cj:((0:Int)<(j:Int))=False:=bh aa;rw[hj0,List.take_zero,ab (by exact zA8)]at D2;by_cases Q0:ym.2.2.1=yt.2.2.1
       ·rw[ab (λh=>h Q0)]at D2;have hle:lEq ym.2.2.1 yt.2.2.1=true:=by rw[fF,Q0,dk]
        refine qS (zDm aj t1 t3 t5 t6 t7 z0 c0 c1 cj r1 (zDm m1 rx m2 bK cX eV gG bS dv bF (ixI O' Z_) (zDk (ixI L4 C8) M9 hcg T9.f3 T9.le3 hyt.f3 hyt.le3 hle ke sK))) ?_;refine WE.con (mR H7 _ _ lr m hb6 ha6.lt hR) λw H8 g8 hw=>?_;subst hw;refine qS (qA aj z0) ?_;refine rest2 (decide (0<=fv 0 lr m)) _ _ g8 (last D2) ?_;exact eo (zDh t1 t3 t4 t5 t6 z0 A0)
       rw[ad Q0]at D2;have hle:lEq ym.2.2.1 yt.2.2.1=false:=by rw[fF];exact aF Q0
       refine qS (zDm aj t1 t3 t5 t6 t7 z0 c0 c1 cj r1 (zDm m1 rx m2 bK cX eV gG bS dv bF (ixI O' Z_) (zDi (ixI L4 C8) M9 hcg T9.f3 T9.le3 hyt.f3 hyt.le3 hle))) ?_;refine rest2 true _ _ (Fr.refl _) D2 ?_;exact eo (zDh t1 t3 t4 t5 t6 z0 A0)
      have cj:((0:Int)<(j:Int))=True:=bH aa;have Y2:j-1<x.2.length:=aa;have ey:=aA Y2;have hpp:=λz=>Ce (x:=z) aa ey;generalize x.2[j-1]=y at ey hpp;have J4:=hut (j-1) y ey;have O3:IntKind.i64.wrap ((j:Int)-1)=((j-1:Nat):Int):=by rw[gE aa aa];omega
      rw[hpp m]at D2;by_cases c2:m<=y
      ·rw[ad (bp c2)]at D2;have c2:=bH c2;refine qS (zDm aj t3 t5 t6 t7 z0 c0 c1 cj c2 O3 (zDl rx m2 gH jE dp bF (ixC Y2) E9 hug J4.1 J4.2)) ?_;refine rest2 true _ _ (Fr.refl _) D2 ?_;exact eo (zDh t1 t3 t4 t5 t6 z0 A0)
      rw[ab (by rw[bI];exact c2)]at D2;have c2:=bh c2;by_cases Q0:ym.2.2.1=yt.2.2.1
      ·rw[ab (λh=>h Q0)]at D2;have hle:lEq ym.2.2.1 yt.2.2.1=true:=by rw[fF,Q0,dk]
       refine qS (zDm aj t1 t3 t5 t6 t7 z0 c0 c1 cj c2 (zDm O3 r1 m1 rx m2 bK cX eV gG bS dv (zDm gH jE dp bF (ixC Y2) E9 hug J4.1 J4.2 (ixI O' Z_) (ixI L4 C8) (zDj M9 hcg T9.f3 T9.le3 hyt.f3 hyt.le3 hle ke sK)))) ?_;refine WE.con (mR H7 _ _ lr m hb6 ha6.lt hR) λw H8 g8 hw=>?_;subst hw;refine qS (qA aj z0) ?_;refine rest2 (decide (0<=fv 0 lr m)) _ _ g8 (last D2) ?_;exact eo (zDh t1 t3 t4 t5 t6 z0 A0)
      rw[ad Q0]at D2;have hle:lEq ym.2.2.1 yt.2.2.1=false:=by rw[fF];exact aF Q0
      refine qS (zDm aj t1 t3 t5 t6 t7 z0 c0 c1 cj c2 (zDm O3 r1 m1 rx m2 bK cX eV gG bS dv (zDm gH jE dp bF (ixC Y2) E9 hug J4.1 J4.2 (ixI O' Z_) (ixI L4 C8) (zDh M9 hcg T9.f3 T9.le3 hyt.f3 hyt.le3 hle)))) ?_;refine rest2 true _ _ (Fr.refl _) D2 ?_;exact eo (zDh t1 t3 t4 t5 t6 z0 A0)
     clear hx hy Kx Ky;have hje:j=x.2.length:=aa;rw[hje,ct,pM]at D2;rw[<-D2,ab aU]at O2;rw[<-O2]at hr;refine qW z0 ?_;refine p2 _ _ (q1 _ _ ?_);refine qW (zDd z0 t4 X1) ?_;refine⟨lr.length-(i+1),aa,i+1,rfl,B0,g6,m1,r1,hr,?_⟩;exact eo (zDf t1 t3 t4 z0 A0)
    exact eo (zDg t1 t3 t4 t5 z0 A0)
   clear hK;by_cases c0:x.1<0
   ·rw[ad c0]at hr;have c0:=bH c0;refine qS (zDi aj t5 z0 rx n4 dv bF c0) ?_;refine rest true _ _ (Fr.refl _) (λh=>by cases h) hr ?_;exact eo (zDg t1 t3 t4 t5 z0 A0)
   rw[ab c0]at hr;by_cases c1:(lc.length:Int)<=x.1
   ·rw[ad c1]at hr;have c0:=bh c0;have c1:=bH c1;refine qS (zDk aj t3 t5 z0 rx n4 dv bF c0 c1) ?_;refine rest true _ _ (Fr.refl _) (λh=>by cases h) hr ?_;exact eo (zDg t1 t3 t4 t5 z0 A0)
   rw[ab c1]at hr;have L4:0<=x.1:=aa;have C8:x.1<lc.length:=aa;have c0:=bh c0;have c1:=bh c1;refine qS (zDm aj t1 t3 t4 t5 z0 rx n4 r1 m1 dv (zDf bF c0 c1 ke sK)) ?_;refine WE.con (mR H4 _ _ lr x.1 (hB.gr g4) (hA.gr g4).lt hR) λw H8 g8 hw=>?_;subst hw;refine qS (zDd aj t4 z0) ?_;refine rest (!(fv 0 lr x.1==(i:Int))) _ _ g8 (λ_=>⟨L4,C8⟩) ?_ ?_
   ·by_cases he:fv 0 lr x.1=(i:Int)
    ·rw[ab (λh=>h he)]at hr;rw[he,dk];exact hr
    rw[ad he]at hr;rw[aF he];exact hr
   exact eo (zDg t1 t3 t4 t5 z0 A0)
  clear hx hy Kx Ky;have U0:i=lr.length:=aa;rw[U0,ct,xH]at hr;refine qW z0 ?_;refine k2 _ _ ?_;refine qW z0 ?_;exact fin (true) _ _ qp (qd A0) (g3) (hr)
 exact eo (zDd t1 z0 A0)
def isT(l:List Rl)(t:Int):Bool:=l.any λx=>x.1==t
def Qb:∀(n:Nat)(l:List Rl)(t:Int),isT l t=false->fv n l t=-1
 |_,[],_,_=>rfl
 |n,x::l,t,h=>by unfold isT at h;rw[List.any_cons,tF]at h;unfold fv;rw[ab (ne_of_beq_false h.1)];exact Qb (n+1) l t h.2
def Cv:∀(n:Nat)(l:List Rl)(t:Int),isT l t=true->(n:Int)<=fv n l t/\fv n l t<(n:Int)+l.length
 |_,[],_,h=>by cases h
 |n,x::l,t,h=>by
  unfold fv;by_cases e:x.1=t
  ·rw[ad e,List.length_cons];omega
  rw[ab e];have h2:isT l t=true:=by unfold isT at h |-;rw[List.any_cons,aF e,Bool.false_or]at h;exact h
  have:=Cv (n+1) l t h2;rw[List.length_cons];omega
def Le:∀(n:Nat)(acc l:List Rl)(t:Int),fv n (acc++l) t=if isT acc t=true then fv n acc t else fv (n+acc.length) l t
 |_,[],_,t=>by rw[ab (show¬(isT [] t=true)from zA8)];rfl
 |n,x::acc,l,t=>by
  rw[Ag];unfold fv;by_cases e:x.1=t
  ·rw[ad e,ad (by unfold isT;rw[List.any_cons,e,dk];rfl),ad e]
  have h2:isT (x::acc) t=isT acc t:=by unfold isT;rw[List.any_cons,aF e,Bool.false_or]
  rw[ab e,ab e,h2,Le (n+1) acc l t,List.length_cons];have:n+1+acc.length=n+(acc.length+1):=aa;rw[this];cases l<;>rfl
def Lf(l:List Rl)(t:Int):decide (0<=fv 0 l t)=isT l t:=by
 cases h:isT l t with
 |true=>exact bp (by have:=(Cv 0 l t h).1;omega)
 |false=>rw[Qb 0 l t h];rfl
def EX(lc:List Cl)(lr:List Rl)(t:Int):∀(l acc:List Int),pM lc lr t acc l=(gK lc t acc l&&l.all λm=>!isT lr m)
 |[],_=>rfl
 |m::l,acc=>by
  rw[pM,gK,List.all_cons];by_cases c0:m<0
  ·rw[ad c0,ad c0];rfl
  rw[ab c0,ab c0];by_cases c1:(lc.length:Int)<=m
  ·rw[ad c1,ad c1];rfl
  rw[ab c1,ab c1];by_cases c2:yK acc m=true
  ·rw[ad c2,ad c2];rfl
  rw[ab c2,ab c2];by_cases c3:gX lc m≠gX lc t
  ·rw[ad c3,ad c3];rfl
  rw[ab c3,ab c3,<-Lf];by_cases c4:0<=fv 0 lr m
  ·rw[ad c4,bp c4];cases gK lc t (acc++[m]) l<;>rfl
  rw[ab c4,bJ c4,EX lc lr t l];rfl
def pL(lc:List Cl)(t:Int):∀(l acc:List Int),gK lc t acc l=true->∀m∈l,0<=m/\m<lc.length
 |[],_,_,_,h=>by cases h
 |m::l,acc,h,k,hk=>by
  rw[gK]at h;by_cases c0:m<0
  ·rw[ad c0]at h;cases h
  rw[ab c0]at h;by_cases c1:(lc.length:Int)<=m
  ·rw[ad c1]at h;cases h
  rw[ab c1]at h;by_cases c2:yK acc m=true
  ·rw[ad c2]at h;cases h
  rw[ab c2]at h;by_cases c3:gX lc m≠gX lc t
  ·rw[ad c3]at h;cases h
  rw[ab c3]at h;rcases List.mem_cons.1 hk with rfl|hk
  ·omega
  exact pL lc t l _ h k hk
def Ux(lc:List Cl)(lr:List Rl):∀(rest acc:List Rl)(S:List Int),lr=acc++rest->(∀m∈S,0<=m/\m<(lc.length:Int)) ->
  goR lc (acc.map (·.1)) S rest=(xH lc lr acc.length rest&&S.all λm=>!isT lr m)
 |[],acc,S,he,hS=>by
  rw[List.append_nil]at he;subst he;rw[goR,xH,Bool.true_and];have hT:∀t:Int,((lr.map (·.1)).any λx=>x==t)=isT lr t:=λt=>by unfold isT;rw[List.any_map];rfl
  cases hr:S.all λm=>!isT lr m with
  |true=>
   rw[om]at hr |-;intro j _;rw[hT];cases hs:S.any λx=>x==(j:Int)with
   |false=>rw[Bool.and_false];rfl
   |true=>obtain⟨m,hm,e⟩:=List.any_eq_true.1 hs;rw[eq_of_beq e]at hm;have:=hr _ hm;rw[Bool.and_true];exact this
  |false=>rw[List.all_eq_false]at hr |-;obtain⟨m,hm,h⟩:=hr;obtain⟨h0,h1⟩:=hS m hm;have e:((m.toNat:Nat):Int)=m:=aa;refine⟨m.toNat,List.mem_range.2 aa,?_⟩;rw[hT,e];have h2:(S.any λx=>x==m)=true:=List.any_eq_true.2 ⟨m,hm,dk _⟩;rw[h2,Bool.and_true];exact h
 |x::rest,acc,S,he,hS=>by
  rw[goR,xH];by_cases c0:x.1<0
  ·rw[ad c0,ad c0];rfl
  rw[ab c0,ab c0];by_cases c1:(lc.length:Int)<=x.1
  ·rw[ad c1,ad c1];rfl
  rw[ab c1,ab c1];have hT:((acc.map (·.1)).any λy=>y==x.1)=isT acc x.1:=by unfold isT;rw[List.any_map];rfl
  rw[hT];have hs:fv 0 lr x.1=if isT acc x.1=true then fv 0 acc x.1 else(acc.length:Int):=by
   rw[he,Le];cases isT acc x.1 with
   |true=>rfl
   |false=>rw[ab zA8,ab zA8,fv,ad rfl,Nat.zero_add]
  cases ht:isT acc x.1 with
  |true=>rw[ht,ad rfl]at hs;have:=Cv 0 acc x.1 ht;rw[ad rfl,ad aa];rfl
  |false=>
   rw[ht,ab zA8]at hs;rw[ab zA8,ab (show¬(fv 0 lr x.1≠(acc.length:Int)) fromλh=>h hs),EX];cases hp:gK lc x.1 [] x.2 with
   |false=>rfl
   |true=>
    have hr:=pL lc x.1 x.2 [] hp;have ih:=Ux lc lr rest (acc++[x]) (S++x.2) (by rw[he,bL];rfl) λm hm=>by
     rcases List.mem_append.1 hm with h|h
     ·exact hS m h
     exact hr m h
    rw[List.map_append,aI,uQ]at ih;rw[ab (by decide:¬(true=false)),Bool.true_and];refine ih.trans ?_;show(xH lc lr (acc.length+1) rest&&_)=_;cases x.2.all λm=>!isT lr m with
    |true=>rw[ab (by decide:¬(true=false)),Bool.and_true]
    |false=>rw[ad rfl,Bool.and_false,Bool.and_false];rfl
def KO(lc:List Cl)(lr:List Rl):xH lc lr 0 lr=goR lc [] [] lr:=by
 have:=Ux lc lr lr [] [] rfl λm hm=>by cases hm
 rw[List.map_nil]at this;rw[this];exact(Bool.and_true _).symm
end Go.Proofs.YtgepceljhelekaaGreat
end

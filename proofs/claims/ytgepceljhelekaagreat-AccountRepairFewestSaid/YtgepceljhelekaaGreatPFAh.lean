/- A part of the proof: BkNum3, BkNum5, BkNum6, BkNum7, BkPz1, BkPz2, BkPz5, BkPz6, BkPz7, BkPz8, BkPz9, BkPz10, BkPzArg, BkFacts5, BkFacts6, BkFacts7, BkFacts9, BkAll, BkSum1, BkSum2, BkSum3, BkSl1, BkSl2, BkSl4, BkEv. No conditions. -/
import Derived.Test.YtgepceljhelekaaGreatPFAg
import Derived.KernelRfl
set_option maxRecDepth 100000
set_option maxHeartbeats 64000000
set_option linter.all false
noncomputable section
namespace Go.Proofs.YtgepceljhelekaaGreat
open Go Go.Eng
def BA{E:Env}{r:Option Nat}{z:Code}{A:aa}{H:Hp}{Q:ak->aa->Hp->Prop}{i:Nat}(h:R1 E r z A H Q):R1 E r (.seq (.label i) z) A H Q:=R1.seq ⟨0,_,_,_,rfl,h⟩
def Yo(acc:List Gp):Bool:=acc.getLast?.any xz
def ia(less:Bool):List Gp->List Gp->Int
 |_,[]=>0
 |acc,x::l=>
  if xz x=true then
   if less=true then 24 else if Yo acc=true then 5 else ia less (acc++[x]) l
  else if nmB x.2.1=false then 20 else if x.1<1∨(99:Int)<x.1 then 21 else if Xa acc x.2.1=true then 22 else if(less&&x.2.2)=true then 24 else ia less (acc++[x]) l
def OL{l:List Gp}{i:Nat}{y:Gp}(hi:0<i)(hy:l[i-1]?=some y):Yo (l.take i)=xz y:=by
 have h:(l.take i).getLast?=some y:=by
  have C0:=(List.getElem?_eq_some_iff.1 hy).1;rw[List.getLast?_eq_getElem?,List.length_take,Nat.min_eq_left (by omega),List.getElem?_take,zB0 (by omega)];exact hy
 unfold Yo;rw[h];rfl
def lP(H:Hp)(v:AC)(l:List Gp)(less:Bool)(hv:gS H v l)(hL:l.length≤1000000):
  Con E2 168 [.one v,.one (.b less)] H (λ_=>False) λr _=>r=.one (.i .i64 (ia less [] l)):=by
 refine Con.of rfl λlg=>?_;have hv:gS ⟨H.t,H.nx,lg⟩ v l:=hv;generalize(⟨H.t,H.nx,lg⟩:Hp)=H at hv ⊢
 refine C1.body (E:=E2) (nt:=69) (res:=[.tmp 4]) Tryz.func168 rfl rfl rfl rfl rfl λtm z0=>?_;have h0:=z0 0 _ rfl;have h1:=z0 1 _ rfl;clear z0;have fin:∀(e:Int)(A:aa)(H3:Hp),slot A.tm 4=.one (.i .i64 e)->A.dfr=[]->Gr H H3->e=ia less [] l->∃w H4,aC E2 [.tmp 4] (.ret,A,H3)=.ok [(w,H4)]∧Gr H H4∧∀_:List Nat,w=.one (.i .i64 (ia less [] l)):=λe A H3 h1 h2 h3 h4=>⟨_,H3,aj (.i .i64 e) (.inr rfl) h2 h1,h3,λ_=>by rw[h4]⟩;generalize G0:ia less [] l=r0 at fin;refine qW (zDf ai h0 ew hv.len hv.lt) ?_;refine R1.scope (BA ?_);refine qW (zDf ai h0 ew hv.len hv.lt) ?_;refine R1.ba λK k1 k2 k3 k4=>?_;refine R1.loop (λk A H1=>∃i:Nat,k=l.length-i∧i≤l.length∧Gr H H1∧ia less (l.take i) (l.drop i)=r0∧slot A.tm 0=.one v∧slot A.tm 1=.one (.b less)∧slot A.tm 9=.one v∧slot A.tm 10=.one (.i .i64 (l.length:Int))∧slot A.tm 11=.one (.i .i64 (i:Int))∧A.nt=69∧A.dfr=[]) ?_ l.length
  ⟨0,rfl,Nat.zero_le _,Fr.refl _,G0,?_⟩
 ·clear h0 h1 tm;rintro k A H1 ⟨i,rfl,hi,g1,hr,t0,t1,t9,t10,t11,A0,B0⟩;have G8:=hv.gr g1;refine qW (zDe ai t10 t11 A0) ?_;refine qE λKx Ky hx hy=>?_;refine iy (λhc=>hx ?_) (λhc=>hy ?_)
  ·clear hx hy Kx Ky;have C0:i<l.length:=by omega
   obtain⟨id,g,off,cells,rfl,hid,B1,K0⟩:=G8.open (by omega)
   have ex:=zB4 C0;have N0:=zC1 C0;have I2:=zC2 C0;generalize l[i]=x at ex N0 I2;have O0:=K0 i x ex;have B3:=zC0 i (by omega);rw[N0,ia]at hr;refine qV ?_;refine R1.ba λK2 q1 q2 q3 q4=>?_;refine qG (zDm ai t9 t11 A0 kM iF uW sv (ixC C0) hid B1 (zDd O0.all O0.le fu)) λK hK=>?_;refine hK _ _ ?_;clear hK K;refine R1.gen (λA3 H3=>Gr H1 H3∧H1.nx<H3.nx∧H3.get H1.nx=some (.arr (gpC x) 209 0 0)∧slot A3.tm 0=.one (.o (.sl id g off l.length 3))∧slot A3.tm 1=.one (.b less)∧slot A3.tm 5=.one (.i .i64 (i:Int))∧slot A3.tm 6=.one (.o (.ptr H1.nx 0 0 3))∧slot A3.tm 9=.one (.o (.sl id g off l.length 3))∧slot A3.tm 10=.one (.i .i64 (l.length:Int))∧slot A3.tm 11=.one (.i .i64 (i:Int))∧A3.nt=69∧A3.dfr=[])
    ⟨((Fr.refl _).new _).mod _ (.inl (zA1 _)),?_⟩ ?_
   ·exact qZ (zDi t0 t1 t9 t10 t11 A0 B0 fu)
   clear t0 t1 t9 t10 t11 A0 B0 A;rintro A H3 ⟨g3,n3,rx,t0,t1,t5,t6,t9,t10,t11,A0,B0⟩;have next:∀(A2:aa)(H2:Hp),Gr H3 H2->ia less (l.take (i+1)) (l.drop (i+1))=r0->slot A2.tm 0=slot A.tm 0->slot A2.tm 1=slot A.tm 1->slot A2.tm 9=slot A.tm 9->slot A2.tm 10=slot A.tm 10->slot A2.tm 11=slot A.tm 11->A2.nt=69->A2.dfr=[] ->
     K2 .normal A2 H2∧K2 (.exit 1) A2 H2:=by
    intro A2 H2 g2 hr s0 s1 s9 s10 s11 hn hd;have g2':Gr H H2:=g1.gr (g3.gr g2);rw[t0]at s0;rw[t1]at s1;rw[t9]at s9;rw[t10]at s10;rw[t11]at s11;refine⟨q1 _ _ ?_,q2 _ _ ?_⟩
    ·refine qW (zDd hn s11 B3) ?_;refine⟨l.length-(i+1),by omega,i+1,rfl,C0,g2',hr,?_,?_,?_,?_,?_,?_,?_⟩
     ·simp only[ae,Nat.reduceEqDiff,reduceIte,s0]
     ·simp only[ae,Nat.reduceEqDiff,reduceIte,s1]
     ·simp only[ae,Nat.reduceEqDiff,reduceIte,s9]
     ·simp only[ae,Nat.reduceEqDiff,reduceIte,s10]
     ·simp only[ae,Nat.reduceEqDiff,reduceIte]
     ·simp only[az,hn]
     simp only[al,hd]
    refine qW (zDd hn s11 B3) ?_;refine⟨l.length-(i+1),by omega,i+1,rfl,C0,g2',hr,?_,?_,?_,?_,?_,?_,?_⟩
    ·simp only[ae,Nat.reduceEqDiff,reduceIte,s0]
    ·simp only[ae,Nat.reduceEqDiff,reduceIte,s1]
    ·simp only[ae,Nat.reduceEqDiff,reduceIte,s9]
    ·simp only[ae,Nat.reduceEqDiff,reduceIte,s10]
    ·simp only[ae,Nat.reduceEqDiff,reduceIte]
    ·simp only[az,hn]
    simp only[al,hd]
   clear q1 q2;rw[<-I2]at hr;refine R1.ba λK3 p1 p2 p3 p4=>?_;refine qG (zDi ai t6 A0 rx n3 iF fu vE) λK hK=>?_;refine WE.con (pI H3 x) λw H4 g4 hw=>?_;subst hw;have rx4:H4.get H1.nx=some (.arr (gpC x) 209 0 0):=by rw[g4.get _ n3 zB2];exact rx
   have n4:H1.nx<H4.nx:=zA0 n3 g4.nx;have g4':=g1.gr (g3.gr g4);cases hgp:xz x with
   |true=>
    rw[zB0 hgp]at hr;refine qS (zDd ai A0 t1) ?_;refine hK _ _ ?_;clear hK K;cases less with
    |true=>
     rw[zB0 rfl]at hr;refine qY ?_;refine qW A0 ?_;exact p4 _ _ (q4 _ _ (k4 _ _ (fin 24 _ _ qp (qd B0) g4' hr)))
    |false=>
     rw[zB1 zA8]at hr;refine qY ?_;refine qG (zDi ai t6 A0 rx4 n4 iF fu vE) λK hK=>?_;refine WE.con (pI H4 x) λw H5 g5 hw=>?_;subst hw;have g35:Gr H3 H5:=g4.gr g5;have g5':Gr H H5:=g4'.gr g5;refine qS (zDd ai A0 hgp) ?_;refine hK _ _ ?_;clear hK K;refine qY ?_;by_cases l5:i=0
     ·have c0:((0:Int)<(i:Int))=False:=eq_false (by omega);rw[l5,List.take_zero,zB1 (by exact zA8),<-l5]at hr;refine qW (zDe ai t5 A0 c0) ?_;refine qY ?_;refine qV ?_;exact p3 1 _ _ (by decide) (next _ _ g35 hr qp qp qp qp qp (by simp only[az,A0]) (qd B0)).2
     have c0:((0:Int)<(i:Int))=True:=eq_true (by omega);have D7:i-1<l.length:=by omega
     have ey:l[i-1]?=some l[i-1]:=zB4 D7;have hgpp:=OL (by omega) ey;generalize l[i-1]=y at ey hgpp;have O5:=K0 (i-1) y ey;have I5:IntKind.i64.wrap ((i:Int)-1)=((i-1:Nat):Int):=by rw[aP (by omega) (by omega)];omega
     have hid5:id<H5.nx:=zA0 hid (g3.gr g35).nx;have hgr5:rowOf (H5.get id) g=some cells:=by rw[(g3.gr g35).get _ hid zB2];exact B1
     rw[hgpp]at hr;refine qG (zDm ai t0 t5 A0 c0 I5 kM iF (ixC D7) hid5 hgr5 (zDe O5.all O5.le fu vE)) λK hK=>?_;refine WE.con (pI H5 y) λw H6 g6 hw=>?_;subst hw;have g36:Gr H3 H6:=g35.gr g6;have g6':Gr H H6:=g5'.gr g6;cases hgy:xz y with
     |true=>
      rw[hgy,zB0 rfl]at hr;refine qS (qA ai A0) ?_;refine hK _ _ ?_;clear hK K;refine qY ?_;refine qW A0 ?_;exact p4 _ _ (q4 _ _ (k4 _ _ (fin 5 _ _ qp (qd B0) g6' hr)))
     |false=>
      rw[hgy,zB1 zA8]at hr;refine qS (qA ai A0) ?_;refine hK _ _ ?_;clear hK K;refine qY ?_;refine qV ?_;exact p3 1 _ _ (by decide) (next _ _ g36 hr qp qp qp qp qp (by simp only[az,A0]) (qd B0)).2
   |false=>
    rw[zB1 (by rw[hgp];exact zA8)]at hr;refine qS (zDd ai A0 t1) ?_;refine hK _ _ ?_;clear hK K;refine qY ?_;refine qG (zDi ai t6 A0 rx4 n4 iF fu vE) λK hK=>?_;refine WE.con (pI H4 x) λw H5 g5 hw=>?_;subst hw;have rx5:H5.get H1.nx=some (.arr (gpC x) 209 0 0):=by rw[g5.get _ n4 zB2];exact rx4
    have n5:H1.nx<H5.nx:=zA0 n4 g5.nx;have g35:Gr H3 H5:=g4.gr g5;have g5':Gr H H5:=g4'.gr g5;refine qS (zDd ai A0 hgp) ?_;refine hK _ _ ?_;clear hK K;refine qY ?_;refine qG (zDj ai t6 A0 rx5 n5 mD bC fu kE) λK hK=>?_;refine WE.dQ (mq x.2.1) λH6 g6 nn6 e6=>?_;have rx6:H6.get H1.nx=some (.arr (gpC x) 209 0 0):=(e6 _).trans rx5;have n6:H1.nx<H6.nx:=by rw[nn6];exact n5
    have g36:Gr H3 H6:=g35.gr g6;have g6':Gr H H6:=g5'.gr g6;cases h_:nmB x.2.1 with
    |false=>
     rw[zB0 h_]at hr;refine qS (qA ai A0) ?_;refine hK _ _ ?_;clear hK K;refine qY ?_;refine qW A0 ?_;exact p4 _ _ (q4 _ _ (k4 _ _ (fin 20 _ _ qp (qd B0) g6' hr)))
    |true=>
     rw[zB1 (by rw[h_];decide)]at hr;refine qS (qA ai A0) ?_;refine hK _ _ ?_;clear hK K;refine qY ?_;by_cases M5:x.1<1
     ·have c1:(x.1<1)=True:=eq_true M5;rw[zB0 (.inl M5)]at hr;refine qW (zDj ai t6 A0 rx6 n6 nq bE fu c1) ?_;refine qY ?_;refine qW A0 ?_;exact p4 _ _ (q4 _ _ (k4 _ _ (fin 21 _ _ qp (qd B0) g6' hr)))
     have c1:(x.1<1)=False:=eq_false M5;by_cases X7:(99:Int)<x.1
     ·have c2:((99:Int)<x.1)=True:=eq_true X7;rw[zB0 (.inr X7)]at hr;refine qW (zDk ai t6 A0 rx6 n6 nq bE fu c1 c2) ?_;refine qY ?_;refine qW A0 ?_;exact p4 _ _ (q4 _ _ (k4 _ _ (fin 21 _ _ qp (qd B0) g6' hr)))
     have c2:((99:Int)<x.1)=False:=eq_false X7;rw[zB1 (λh=>h.elim M5 X7)]at hr;refine qW (zDk ai t6 A0 rx6 n6 nq bE fu c1 c2) ?_;refine qY ?_;refine qW A0 ?_;refine p1 _ _ ?_;have hid6:id<H6.nx:=zA0 hid (g3.gr g36).nx;have hgr6:rowOf (H6.get id) g=some cells:=by rw[(g3.gr g36).get _ hid zB2];exact B1
     generalize hrb:Xa (l.take i) x.2.1=rb at hr;have P5:(l.take i).length=i:=by rw[List.length_take];omega
     refine qG (zDi ai t0 t5 A0 kM ew (slH (Nat.le_of_lt C0)) hid6) λK hK=>?_;refine hK _ _ ?_;clear hK K;refine R1.ba λK4 u1 u2 u3 u4=>?_;refine R1.loop (λk A2 H2=>∃j:Nat,k=i-j∧j≤i∧Gr H6 H2∧Xa ((l.take i).drop j) x.2.1=rb∧slot A2.tm 0=.one (.o (.sl id g off l.length 3))∧slot A2.tm 1=.one (.b less)∧slot A2.tm 6=.one (.o (.ptr H1.nx 0 0 3))∧slot A2.tm 9=.one (.o (.sl id g off l.length 3))∧slot A2.tm 10=.one (.i .i64 (l.length:Int))∧slot A2.tm 11=.one (.i .i64 (i:Int))∧slot A2.tm 51=.one (.o (.sl id g off i 3))∧slot A2.tm 52=.one (.i .i64 (i:Int))∧slot A2.tm 53=.one (.i .i64 (j:Int))∧A2.nt=69∧A2.dfr=[]) ?_ i
      ⟨0,rfl,Nat.zero_le _,Fr.refl _,by rw[List.drop_zero];exact hrb,?_⟩
     ·rintro k A2 H2 ⟨j,rfl,hj,g2,W5,s0,s1,s6,s9,s10,s11,s51,s52,s53,hn,hd⟩;have rx2:H2.get H1.nx=some (.arr (gpC x) 209 0 0):=by rw[g2.get _ n6 zB2];exact rx6
      have n2:H1.nx<H2.nx:=zA0 n6 g2.nx;have hid2:id<H2.nx:=zA0 hid6 g2.nx;have y_:rowOf (H2.get id) g=some cells:=by rw[g2.get _ hid6 zB2];exact hgr6
      have g2':Gr H H2:=g6'.gr g2;refine qW (zDe ai s52 s53 hn) ?_;refine qE λKx Ky hx hy=>?_;refine iy (λhc=>hx ?_) (λhc=>hy ?_)
      ·clear hx hy Kx Ky;have hjt:j<i:=by omega
       have hjt':j<(l.take i).length:=by omega
       have hdr2:(l.take i).drop j=(l.take i)[j]::(l.take i).drop (j+1):=List.drop_eq_getElem_cons hjt';have ey:l[j]?=some (l.take i)[j]:=by rw[List.getElem_take];exact zB4 (by omega)
       generalize(l.take i)[j]=y at hdr2 ey
       have O5:=K0 j y ey;have f_:=zC0 j (by omega);rw[hdr2,Xa,List.any_cons]at W5;refine qV ?_;refine R1.ba λK5 w1 w2 w3 w4=>?_;refine qG (zDm ai s51 s53 hn kM iF uW sv (ixC hjt) hid2 y_ (zDd O5.all O5.le fu)) λK hK=>?_;refine hK _ _ ?_;clear hK K;refine R1.gen (λA3 H7=>Gr H2 H7∧H2.nx<H7.nx∧H7.get H2.nx=some (.arr (gpC y) 209 0 0)∧slot A3.tm 8=.one (.o (.ptr H2.nx 0 0 3))∧slot A3.tm 0=.one (.o (.sl id g off l.length 3))∧slot A3.tm 1=.one (.b less)∧slot A3.tm 6=.one (.o (.ptr H1.nx 0 0 3))∧slot A3.tm 9=.one (.o (.sl id g off l.length 3))∧slot A3.tm 10=.one (.i .i64 (l.length:Int))∧slot A3.tm 11=.one (.i .i64 (i:Int))∧slot A3.tm 51=.one (.o (.sl id g off i 3))∧slot A3.tm 52=.one (.i .i64 (i:Int))∧slot A3.tm 53=.one (.i .i64 (j:Int))∧A3.nt=69∧A3.dfr=[])
        ⟨((Fr.refl _).new _).mod _ (.inl (zA1 _)),?_⟩ ?_
       ·exact qZ (zDm s0 s1 s6 s9 s10 s11 s51 s52 s53 hn hd fu)
       clear s0 s1 s6 s9 s10 s11 s51 s52 s53 hn hd A2;rintro A2 H7 ⟨g7,n7,ry,s8,s0,s1,s6,s9,s10,s11,s51,s52,s53,hn,hd⟩;have rx7:H7.get H1.nx=some (.arr (gpC x) 209 0 0):=by rw[g7.get _ n2 zB2];exact rx2
       have n17:H1.nx<H7.nx:=zA0 n2 g7.nx;have g7':Gr H H7:=g2'.gr g7;cases cs:(y.2.1==x.2.1)with
       |true=>
        rw[cs,Bool.true_or]at W5;rw[<-W5,zB0 rfl]at hr;refine qW (zDl ai s8 s6 hn ry n7 rx7 n17 fu mD bC) ?_;refine qE λKx Ky hx hy=>?_;rw[fF,cs];refine hx ?_;clear hx hy Kx Ky;refine qW hn ?_;exact w4 _ _ (u4 _ _ (q4 _ _ (k4 _ _ (fin 22 _ _ qp (by simp only[al,hd]) g7' hr))))
       |false=>
        rw[cs,Bool.false_or]at W5;refine qW (zDl ai s8 s6 hn ry n7 rx7 n17 fu mD bC) ?_;refine qE λKx Ky hx hy=>?_;rw[fF,cs];refine hy ?_;clear hx hy Kx Ky;refine qW hn ?_;refine w1 _ _ ?_;refine qW (zDd hn s53 f_) ?_;refine⟨i-(j+1),by omega,j+1,rfl,hjt,g2.gr g7,W5,?_,?_,?_,?_,?_,?_,?_,?_,?_,?_,?_⟩
        ·simp only[ae,Nat.reduceEqDiff,reduceIte,s0]
        ·simp only[ae,Nat.reduceEqDiff,reduceIte,s1]
        ·simp only[ae,Nat.reduceEqDiff,reduceIte,s6]
        ·simp only[ae,Nat.reduceEqDiff,reduceIte,s9]
        ·simp only[ae,Nat.reduceEqDiff,reduceIte,s10]
        ·simp only[ae,Nat.reduceEqDiff,reduceIte,s11]
        ·simp only[ae,Nat.reduceEqDiff,reduceIte,s51]
        ·simp only[ae,Nat.reduceEqDiff,reduceIte,s52]
        ·simp only[ae,Nat.reduceEqDiff,reduceIte]
        ·simp only[az,hn]
        simp only[al,hd]
      clear hx hy Kx Ky;have Y_:(l.take i).drop j=[]:=List.drop_eq_nil_of_le (by omega);rw[Y_]at W5;rw[<-W5,zB1 (by exact zA8)]at hr;refine qW hn ?_;refine u2 _ _ ?_;cases less with
      |false=>
       rw[zB1 (by exact zA8)]at hr;refine qW (zDd ai s1 hn) ?_;refine qY ?_;refine qW hn ?_;exact(next _ _ (g36.gr g2) hr (by simp only[ae,Nat.reduceEqDiff,reduceIte,s0,t0]) (by simp only[ae,Nat.reduceEqDiff,reduceIte,s1,t1]) (by simp only[ae,Nat.reduceEqDiff,reduceIte,s9,t9]) (by simp only[ae,Nat.reduceEqDiff,reduceIte,s10,t10]) (by simp only[ae,Nat.reduceEqDiff,reduceIte,s11,t11]) (by simp only[az,hn]) (by simp only[al,hd])).1
      |true=>
       cases hbr:x.2.2 with
       |true=>
        rw[hbr,zB0 (by rfl)]at hr;refine qW (zDk ai s1 s6 hn rx2 n2 fu nu jr hbr) ?_;refine qY ?_;refine qW hn ?_;exact q4 _ _ (k4 _ _ (fin 24 _ _ qp (by simp only[al,hd]) g2' hr))
       |false=>
        rw[hbr,zB1 (by exact zA8)]at hr;refine qW (zDk ai s1 s6 hn rx2 n2 fu nu jr hbr) ?_;refine qY ?_;refine qW hn ?_;exact(next _ _ (g36.gr g2) hr (by simp only[ae,Nat.reduceEqDiff,reduceIte,s0,t0]) (by simp only[ae,Nat.reduceEqDiff,reduceIte,s1,t1]) (by simp only[ae,Nat.reduceEqDiff,reduceIte,s9,t9]) (by simp only[ae,Nat.reduceEqDiff,reduceIte,s10,t10]) (by simp only[ae,Nat.reduceEqDiff,reduceIte,s11,t11]) (by simp only[az,hn]) (by simp only[al,hd])).1
     simp only[ae,Nat.reduceEqDiff,reduceIte,az,al,t0,t1,t6,t9,t10,t11,A0,B0,and_self,true_and];exact⟨rfl,trivial⟩
  clear hx hy Kx Ky;have S1:i=l.length:=by omega
  rw[S1,List.drop_length,ia]at hr;refine qW A0 ?_;refine k2 _ _ ?_;refine qW A0 ?_;exact fin 0 _ _ qp (qd B0) g1 hr
 simp only[ae,Nat.reduceEqDiff,reduceIte,az,al,h0,h1,and_self,true_and];exact⟨rfl,trivial⟩
abbrev Nm:=List Gp×List Gp
def nk(x:Nm):Int:=
 if(24:Int)<x.1.length∨(24:Int)<x.2.length then 3 else if x.1.length=0 then 5 else
 if ia false [] x.1≠0 then ia false [] x.1 else if ia true [] x.2≠0 then ia true [] x.2 else
 if(0<x.2.length∧GJ x.1=true)then 24 else 0
def Ch(H:Hp)(u w:AC)(x:Nm)(hu:gS H u x.1)(hw:gS H w x.2):
  Con E2 141 [.agg [u,w]] H (λ_=>False) λr _=>r=.one (.i .i64 (nk x)):=by
 refine Con.of rfl λlg=>?_;have hu:gS ⟨H.t,H.nx,lg⟩ u x.1:=hu;have hw:gS ⟨H.t,H.nx,lg⟩ w x.2:=hw;generalize(⟨H.t,H.nx,lg⟩:Hp)=H at hu hw ⊢
 refine C1.body (E:=E2) (nt:=40) (res:=[.tmp 2]) Tryz.func141 rfl rfl rfl rfl rfl λtm z0=>?_;have h0:=z0 0 _ rfl;clear z0;have fin:∀(e:Int)(A:aa)(H3:Hp),slot A.tm 2=.one (.i .i64 e)->A.dfr=[]->Gr H H3->e=nk x->∃w H4,aC E2 [.tmp 2] (.ret,A,H3)=.ok [(w,H4)]∧Gr H H4∧∀_:List Nat,w=.one (.i .i64 (nk x)):=λe A H3 h1 h2 h3 h4=>⟨_,H3,aj (.i .i64 e) (.inr rfl) h2 h1,h3,λ_=>by rw[h4]⟩;generalize G0:nk x=r0 at fin;unfold nk at G0;refine qG (qA ai h0) λK hK=>?_;refine hK _ _ ?_;clear hK K;refine R1.gen (λA1 H1=>Gr H H1∧H.nx<H1.nx∧H1.get H.nx=some (.arr [u,w] 56 0 0)∧slot A1.tm 1=.one (.o (.ptr H.nx 0 0 2))∧A1.nt=40∧A1.dfr=[])
  ⟨(Fr.refl _).new _,?_⟩ ?_
 ·exact qZ h0
 rintro A1 H1 ⟨g1,n1,rx,t1,A0,B0⟩;clear h0 tm;have X1:=hu.gr g1;have w8:=hw.gr g1;by_cases h24:(24:Int)<x.1.length
 ·have c24:((24:Int)<x.1.length)=True:=eq_true h24;rw[zB0 (.inl h24)]at G0;refine qW (zDl ai t1 A0 rx n1 eW fL ew X1.len X1.lt c24) ?_;refine qY ?_;refine qW A0 ?_;exact fin 3 _ _ qp (qd B0) g1 G0
 have c24:((24:Int)<x.1.length)=False:=eq_false h24;by_cases h25:(24:Int)<x.2.length
 ·have c25:((24:Int)<x.2.length)=True:=eq_true h25;rw[zB0 (.inr h25)]at G0;refine qW (zDm ai t1 A0 rx n1 eW iD fL ew X1.len X1.lt (zDe w8.len w8.lt c24 c25)) ?_;refine qY ?_;refine qW A0 ?_;exact fin 3 _ _ qp (qd B0) g1 G0
 have c25:((24:Int)<x.2.length)=False:=eq_false h25;rw[zB1 (λh=>h.elim h24 h25)]at G0;refine qW (zDm ai t1 A0 rx n1 eW iD fL ew X1.len X1.lt (zDe w8.len w8.lt c24 c25)) ?_;refine qY ?_;by_cases hz:x.1.length=0
 ·have cz:((x.1.length:Int)==0)=true:=by rw[hz];rfl
  rw[zB0 hz]at G0;refine qW (zDl ai t1 A0 rx n1 eW fL ew X1.len X1.lt cz) ?_;refine qY ?_;refine qW A0 ?_;exact fin 5 _ _ qp (qd B0) g1 G0
 have cz:((x.1.length:Int)==0)=false:=zB5 (by omega);rw[zB1 hz]at G0;refine qW (zDl ai t1 A0 rx n1 eW fL ew X1.len X1.lt cz) ?_;refine qY ?_;refine R1.bA ?_;refine qG (zDi ai t1 A0 rx n1 eW fL oC) λK hK=>?_;refine WE.con (lP H1 u x.1 false X1 (by omega)) λr H2 g2 hr=>?_;subst hr;have rx2:H2.get H.nx=some (.arr [u,w] 56 0 0):=by rw[g2.get _ n1 zB2];exact rx
 have n2:H.nx<H2.nx:=zA0 n1 g2.nx;have g2':=g1.gr g2;refine qS (qA ai A0) ?_;refine hK _ _ ?_;clear hK K;generalize ia false [] x.1=e1 at G0 ⊢;by_cases V6:e1=0
 case neg=>
  have ce:(e1 != 0)=true:=bne_iff_ne.2 V6;rw[zB0 V6]at G0;refine qW (zDd ai A0 ce) ?_;refine qE λKx Ky hx hy=>?_;refine iy (λ_=>hx ?_) (λh=>absurd ce (by simpa using h));clear hx hy Kx Ky;refine qW A0 ?_;exact fin e1 _ _ qp (qd B0) g2' G0
 rw[zB1 (λh=>h V6)]at G0;refine qW (zDd ai A0 V6) ?_;refine qY ?_;refine R1.bA ?_;refine qG (zDi ai t1 A0 rx2 n2 iD fL oC) λK hK=>?_;refine WE.con (lP H2 w x.2 true (w8.gr g2) (by omega)) λr H3 g3 hr=>?_;subst hr;have rx3:H3.get H.nx=some (.arr [u,w] 56 0 0):=by rw[g3.get _ n2 zB2];exact rx2
 have n3:H.nx<H3.nx:=zA0 n2 g3.nx;have g3':=g2'.gr g3;have g_:=(X1.gr g2).gr g3;have I5:=(w8.gr g2).gr g3;refine qS (qA ai A0) ?_;refine hK _ _ ?_;clear hK K;generalize ia true [] x.2=e2 at G0 ⊢;by_cases m_:e2=0
 case neg=>
  have ce:(e2 != 0)=true:=bne_iff_ne.2 m_;rw[zB0 m_]at G0;refine qW (zDd ai A0 ce) ?_;refine qE λKx Ky hx hy=>?_;refine iy (λ_=>hx ?_) (λh=>absurd ce (by simpa using h));clear hx hy Kx Ky;refine qW A0 ?_;exact fin e2 _ _ qp (qd B0) g3' G0
 rw[zB1 (λh=>h m_)]at G0;refine qW (zDd ai A0 m_) ?_;refine qY ?_;refine R1.bA ?_;by_cases hp:0<x.2.length
 ·have cp:((0:Int)<x.2.length)=True:=eq_true (by omega);refine qG (zDm ai t1 A0 rx3 n3 eW iD fL ew g_.lt I5.len (zDd I5.lt cp OH)) λK hK=>?_;refine WE.con (IK H3 u x.1 g_ (by omega)) λr H4 g4 hr=>?_;subst hr;have g4':=g3'.gr g4;refine qS (qA ai A0) ?_;refine hK _ _ ?_;clear hK K;cases hb:GJ x.1 with
  |true=>
   rw[zB0 ⟨hp,hb⟩]at G0;refine qY ?_;refine qW A0 ?_;exact fin 24 _ _ qp (qd B0) g4' G0
  |false=>
   rw[zB1 (λh=>by rw[hb]at h;cases h.2)]at G0;refine qY ?_;refine qW A0 ?_;exact fin 0 _ _ qp (qd B0) g4' G0
 have cp:((0:Int)<x.2.length)=False:=eq_false (by omega);rw[zB1 (λh=>hp h.1)]at G0;refine qW (zDm ai t1 A0 rx3 n3 eW iD fL ew g_.lt I5.len (qA I5.lt cp)) ?_;refine qY ?_;refine qW A0 ?_;exact fin 0 _ _ qp (qd B0) g3' G0
def QY:ao Tryz.prog 67=true:=by kernel_rfl
def pz{E:Env}{s s':Tmp}{t t':TypeId}{A:aa}{H H2:Hp}{e:ak}{id id' g g':Nat}{c c':AC}(ht:loadT E.P t=some (false,1))(ht':loadT E.P t'=some (false,1))(he:e=.normal∨e=.ret)(hd:closeAll H A.dfr=some H2)
  (hs:slot A.tm s=.one (.o (.ptr id g 0 1))) (z9:slot A.tm s'=.one (.o (.ptr id' g' 0 1))) (hg:rowOf (H2.get id) g=some [c]) (Y1:rowOf (H2.get id') g'=some [c']):
  aC E [.cell s t,.cell s' t'] (e,A,H)=.ok [(.tup [(false,[c]),(false,[c'])],H2)]:=by
 have one:∀(s:Tmp)(t:TypeId)(id g:Nat)(c:AC),loadT E.P t=some (false,1)->slot A.tm s=.one (.o (.ptr id g 0 1))->rowOf (H2.get id) g=some [c]->jM E.P (.cell s t) A.tm H2=some (false,[c]):=λs t id g c ht hs hg=>by
  have e0:jM E.P (.cell s t)=match loadT E.P t with
    |some p=>λtm h=>aw (tm.get s) none λv=>ab.rec (motive:=λ_=>Option (Bool×List AC)) (λv _=>iZ v) (λ_=>none) (λ_ _=>none) (λ_ _=>none) (λ_=>none) (cH h p.1 p.2 v)
    |none=>λ_ _=>none:=rfl
  rw[e0,ht];show aw (A.tm.get s) none (λv=>ab.rec (motive:=λ_=>Option (Bool×List AC)) (λv _=>iZ v) (λ_=>none) (λ_ _=>none) (λ_ _=>none) (λ_=>none) (cH H2 false 1 v))=_;rw[IN hs];show ab.rec (motive:=λ_=>Option (Bool×List AC)) (λv _=>iZ v) (λ_=>none) (λ_ _=>none) (λ_ _=>none) (λ_=>none) (cH H2 false 1 (.one (.o (.ptr id g 0 1))))=_;rw[gy,hg,uu (zA1 _) (by simp)];rfl
 have key:(aw (closeAll H A.dfr) (R.bad "marks") λh2=>aw (bQ E.P [.cell s t,.cell s' t'] A.tm h2) (.bad "results") λl=>.ok [(dU l,h2)])=.ok [(.tup [(false,[c]),(false,[c'])],H2)]:=by
  rw[hd];have hr:bQ E.P [.cell s t,.cell s' t'] A.tm H2=some [(false,[c]),(false,[c'])]:=by
   show aw (jM E.P (.cell s t) A.tm H2) none (λx=>aw (aw (jM E.P (.cell s' t') A.tm H2) none λx=>aw (some []) none λl=>some (x::l)) none λl=>some (x::l))=_;rw[one s t id g c ht hs hg,one s' t' id' g' c' ht' z9 Y1];rfl
  show aw (bQ E.P [.cell s t,.cell s' t'] A.tm H2) (R.bad "results") (λl=>R.ok [(dU l,H2)])=_
  rw[hr];rfl
 rcases he with rfl|rfl
 ·exact key
 exact key
def DP:List (Pr×Int)->List UInt8->Int×Int
 |[],_=>(0,11)
 |y::ys,s=>if y.1.1=s then(y.2,0)else DP ys s
def oo(n:List UInt8)(us:List Pr)(s:List UInt8):Int×Int:=if aH n us≠0 then(0,aH n us)else DP (yv 1 us) s
def OR(H:Hp)(n:List UInt8)(u:AC)(us:List Pr)(s:List UInt8)(hu:SlP H u us):
  Con E2 67 [.agg [.o (.str n),u],.one (.o (.str s))] H (λ_=>False) λr _=>r=.tup [(false,[.i .i64 (oo n us s).1]),(false,[.i .i64 (oo n us s).2])]:=by
 refine Con.of rfl λlg=>?_;have hu:SlP ⟨H.t,H.nx,lg⟩ u us:=hu;generalize(⟨H.t,H.nx,lg⟩:Hp)=H at hu ⊢
 refine C1.body (E:=E2) (nt:=23) (res:=[.cell 4 3,.cell 5 35]) Tryz.func67 rfl rfl rfl rfl rfl λtm z0=>?_;have h0:=z0 0 _ rfl;have h1:=z0 1 _ rfl;clear z0;refine qG (zDf ai h0 h1 rD rO) λK hK=>?_;refine hK _ _ ?_;clear hK K;have U2:∀id∈(AV.one u).ids,id<H.nx:=hu.lt;refine R1.gen (λA1 H1=>Gr H H1∧H.nx+3<H1.nx∧H1.get H.nx=some (.arr [.o (.str n),u] 51 0 0)∧H1.get (H.nx+1)=some (.arr [.o (.str s)] 9 0 0)∧H1.get (H.nx+1+1)=some (.arr [.i .i64 0] 3 0 0)∧H1.get (H.nx+1+1+1)=some (.arr [.i .i64 0] 35 0 0)∧slot A1.tm 2=.one (.o (.ptr H.nx 0 0 2))∧slot A1.tm 3=.one (.o (.ptr (H.nx+1) 0 0 1))∧slot A1.tm 4=.one (.o (.ptr (H.nx+1+1) 0 0 1))∧slot A1.tm 5=.one (.o (.ptr (H.nx+1+1+1) 0 0 1))∧A1.nt=23∧A1.dfr=[])
  ⟨((((Fr.refl _).new _).new _).new _).new _,?_⟩ ?_
 ·refine qT ?_;rw[aS (by show H.nx<H.nx+1+1+1;omega),aS (by show H.nx<H.nx+1+1;omega),aS (by show H.nx<H.nx+1;omega)];exact aB rfl
 rintro A1 H1 ⟨g1,n1,r1,r2,r4,r5,t2,t3,t4,t5,A0,B0⟩;clear h0 h1 tm;have X1:SlP H1 u us:=hu.gr g1;obtain⟨c1,E8⟩:∃c,c=H.nx:=⟨_,rfl⟩
 obtain⟨c2,N7⟩:∃c,c=H.nx+1:=⟨_,rfl⟩
 obtain⟨c4,hc4⟩:∃c,c=H.nx+1+1:=⟨_,rfl⟩
 obtain⟨c5,hc5⟩:∃c,c=H.nx+1+1+1:=⟨_,rfl⟩
 rw[<-hc5]at r5 t5;rw[<-hc4]at r4 t4;rw[<-N7]at r2 t3;rw[<-E8]at r1 t2 U2;have o12:c1<c2:=by omega
 have o24:c2<c4:=by omega
 have o45:c4<c5:=by omega
 have o5:c5<H1.nx:=by omega
 have X3:H.nx≤c1:=by omega
 clear hc5 hc4 N7 n1;have l1:c1<H1.nx:=by omega
 have l2:c2<H1.nx:=by omega
 have l4:c4<H1.nx:=by omega
 have fin:∀(e:ak)(A:aa)(H2 H3:Hp)(v w:Int),(e=.normal∨e=.ret)->closeAll H2 A.dfr=some H3->Gr H H3->slot A.tm 4=.one (.o (.ptr c4 0 0 1))->slot A.tm 5=.one (.o (.ptr c5 0 0 1))->H3.get c4=some (.arr [.i .i64 v] 3 0 0)->H3.get c5=some (.arr [.i .i64 w] 35 0 0)->(v,w)=oo n us s ->
   ∃w H4,aC E2 [.cell 4 3,.cell 5 35] (e,A,H2)=.ok [(w,H4)]∧Gr H H4∧∀_:List Nat,w=.tup [(false,[.i .i64 (oo n us s).1]),(false,[.i .i64 (oo n us s).2])]:=λe A H2 H3 v w he hd hg hs z9 hr E3 hv=>
  ⟨_,H3,pz (c:=.i .i64 v) (c':=.i .i64 w) bE qz he hd hs z9 (by rw[hr];exact cG (zA1 _) (zA1 _)) (by rw[E3];exact cG (zA1 _) (zA1 _)),hg,λ_=>by rw[<-hv]⟩
 generalize G0:oo n us s=r0 at fin;unfold oo at G0;repeat refine R1.aF ?_
 refine qG (zDh ai t2 A0 r1 l1 eP uE) λK hK=>?_;refine WE.con (rS H1 n u us X1) λv H2 g2 hv=>?_;subst hv;have r1:H2.get c1=some (.arr [.o (.str n),u] 51 0 0):=by rw[g2.get _ l1 zB2];exact r1
 have r2:H2.get c2=some (.arr [.o (.str s)] 9 0 0):=by rw[g2.get _ l2 zB2];exact r2
 have r4:H2.get c4=some (.arr [.i .i64 0] 3 0 0):=by rw[g2.get _ l4 zB2];exact r4
 have r5:H2.get c5=some (.arr [.i .i64 0] 35 0 0):=by rw[g2.get _ o5 zB2];exact r5
 have o5:c5<H2.nx:=zA0 o5 g2.nx;have l1:c1<H2.nx:=by omega
 have l2:c2<H2.nx:=by omega
 have l4:c4<H2.nx:=by omega
 have j6:=X1.gr g2;have g2:=g1.gr g2;have hlen:=@iY n us;refine qS (qA ai A0) ?_;refine hK _ _ ?_;clear hK K;generalize aH n us=e0 at G0 hlen ⊢;by_cases W0:e0=0
 case neg=>
  have ce:(e0 != 0)=true:=bne_iff_ne.2 W0;rw[zB0 W0]at G0;refine qW (zDd ai A0 ce) ?_;refine qE λKx Ky hx hy=>?_;refine iy (λ_=>hx ?_) (λh=>absurd ce (by simpa using h));clear hx hy Kx Ky;repeat' first|refine R1.ret ?_|refine R1.exit ?_|refine R1.skip ?_|refine R1.xg ?_|refine R1.oR ?_|refine R1.aF ?_|refine R1.bA ?_|refine R1.kZ ?_|((first|refine R1.Ik λK hK=>?_|refine R1.rR λK hK=>?_|refine R1.Iq (by kernel_rfl) λK hK=>?_|refine R1.FJ (by kernel_rfl) λK hK=>?_);simp only[qB,aK,Nat.reduceLT,Nat.reduceEqDiff,Nat.reduceLeDiff,reduceIte,Nat.reduceAdd,Nat.reduceSub,Nat.reduceMul,Int.reduceLT,Int.reduceLE,Int.reduceBEq,ai,t4,t5,A0,vp,dJ,r4,r5,l4,o5,au (Nat.ne_of_gt o45)];refine hK _ _ ?_;clear hK K)
  exact fin .ret _ _ _ 0 e0 (.inr rfl) (by simp only[al,B0];rfl) ((g2.mod _ (.inl (by omega))).mod _ (.inl (by omega))) (by simp only[ae,Nat.reduceEqDiff,reduceIte,t4]) (by simp only[ae,Nat.reduceEqDiff,reduceIte,t5]) (by rw[au (by omega)];exact an rfl) (an rfl) G0
 rw[zB1 (λh=>h W0)]at G0;have hlen:=hlen W0;refine qW (zDd ai A0 W0) ?_;refine qY ?_;refine R1.bA ?_;repeat refine R1.aF ?_
 refine qG (zDh ai t2 A0 r1 l1 eP GF) λK hK=>?_;refine WE.con (za H2 (.o (.str n)) u j6.lt) λv H5 g5⟨hv,C4,J8⟩=>?_;subst hv;refine qS (qA ai A0) ?_;refine hK _ _ ?_;clear hK K;refine R1.jw (λA4=>slot A4.tm 3=.one (.o (.ptr c2 0 0 1))∧slot A4.tm 4=.one (.o (.ptr c4 0 0 1))∧slot A4.tm 5=.one (.o (.ptr c5 0 0 1))∧slot A4.tm 15=.one (.o (.clo 115 [(H2.nx,0,0,2)]))∧A4.nt=23∧A4.dfr=[])
  ⟨by simp only[ae,Nat.reduceEqDiff,reduceIte,t3],by simp only[ae,Nat.reduceEqDiff,reduceIte,t4],by simp only[ae,Nat.reduceEqDiff,reduceIte,t5],by simp only[ae,Nat.reduceEqDiff,reduceIte],by simp only[az,A0],by simp only[al,B0]⟩ ?_
 clear t2 t3 t4 t5 A0 B0 A1;rintro A ⟨t3,t4,t5,t15,A0,B0⟩;have gg:Gr H H5:=g2.gr g5;have r2:H5.get c2=some (.arr [.o (.str s)] 9 0 0):=by rw[g5.get _ l2 zB2];exact r2
 have r4:H5.get c4=some (.arr [.i .i64 0] 3 0 0):=by rw[g5.get _ l4 zB2];exact r4
 have r5:H5.get c5=some (.arr [.i .i64 0] 35 0 0):=by rw[g5.get _ o5 zB2];exact r5
 have W4:SlP H5 u us:=j6.gr g5;obtain⟨il,Q8⟩:∃i,i=H2.nx:=⟨_,rfl⟩
 rw[<-Q8]at C4 J8 t15 o5 l1 l2 l4;clear Q8;generalize x9:yv 1 us=ys at G0;have Z9:ys.length≤us.length:=by rw[<-x9];exact BH 1 us
 refine R1.ba λK k1 k2 k3 k4=>?_;refine R1.range (σ:=Unit) (g:=115) (caps:=[(il,0,0,2)]) (n:=ys.length) (ar:=yA ys) (D:=DL il u) (by simp only[zY,t15]) AS (λ_=>rfl)
  (AU H5 il (.o (.str n)) u us J8 C4 W4 (by omega) ys x9) (λk hk=>by
   rcases hk with h|h
   ·omega
   exact Nat.lt_trans (U2 k h) (by omega)) (by rw[A0];rfl) (λi _=>RK ys i)
  (λi _ H6=>H6.get c2=some (.arr [.o (.str s)] 9 0 0)∧H6.get c4=some (.arr [.i .i64 0] 3 0 0)∧H6.get c5=some (.arr [.i .i64 0] 35 0 0)∧DP (ys.drop i) s=r0∧H5.nx≤H6.nx)
  (λe _ H6=>e=.ret∧H6.get c4=some (.arr [.i .i64 r0.1] 3 0 0)∧H6.get c5=some (.arr [.i .i64 r0.2] 35 0 0)∧H5.nx≤H6.nx)
  (λ_ k=>k=c4∨k=c5) ?_ ?_ ?_ () ?_ ?_ ?_ ?_
 ·rintro i _ H6 H7 ⟨a1,a2,a3,a4,a5⟩ hs;exact⟨by rw[hs.get _ (by omega) (by omega)];exact a1,by rw[hs.get _ (by omega) (by omega)];exact a2,by rw[hs.get _ (by omega) (by omega)];exact a3,a4,zA2 a5 hs.nx⟩
 ·rintro e _ H6 H7 ⟨a1,a2,a3,a5⟩ hs;exact⟨a1,by rw[hs.get _ (by omega) (by omega)];exact a2,by rw[hs.get _ (by omega) (by omega)];exact a3,zA2 a5 hs.nx⟩
 ·rintro i _ H6 k ⟨a1,a2,a3,a4,a5⟩ hk;have:k<H5.nx∧c1<k∧k<il:=by rcases hk with rfl|rfl<;>omega
  refine⟨by omega,by omega,by omega,λh=>?_⟩
  rcases h with h|h
  ·omega
  have:=U2 k h;omega
 ·intro H6 g6 n6;exact⟨by rw[g6.get _ (by omega) zB2];exact r2,by rw[g6.get _ (by omega) zB2];exact r4,by rw[g6.get _ (by omega) zB2];exact r5,by rw[List.drop_zero];exact G0,g6.nx⟩
 ·rintro i _ H6 hi ⟨a1,a2,a3,a4,a5⟩ n6;have hy:ys[i]?=some ys[i]:=zB4 hi;have N0:ys.drop i=ys[i]::ys.drop (i+1):=List.drop_eq_getElem_cons hi;generalize ys[i]=y at hy N0;rw[N0,DP]at a4;rw[Tl hy];obtain⟨x,yval⟩:=y
  refine R1.jw (λA7=>slot A7.tm 3=.one (.o (.ptr c2 0 0 1))∧slot A7.tm 4=.one (.o (.ptr c4 0 0 1))∧slot A7.tm 5=.one (.o (.ptr c5 0 0 1))∧slot A7.tm 16=.agg (prC x)∧slot A7.tm 17=.one (.i .i64 yval)∧A7.nt=23∧A7.dfr=[]) ⟨?_,?_,?_,?_,?_,A0,rfl⟩ ?_
  ·show slot ((A.tm.set 16 _).set 17 _) 3=_;simp only[bR,Nat.reduceEqDiff,reduceIte,t3]
  ·show slot ((A.tm.set 16 _).set 17 _) 4=_;simp only[bR,Nat.reduceEqDiff,reduceIte,t4]
  ·show slot ((A.tm.set 16 _).set 17 _) 5=_;simp only[bR,Nat.reduceEqDiff,reduceIte,t5]
  ·show slot ((A.tm.set 16 _).set 17 _) 16=_;simp only[bR,Nat.reduceEqDiff,reduceIte]
  ·show slot ((A.tm.set 16 _).set 17 _) 17=_;simp only[bR,Nat.reduceEqDiff,reduceIte]
  rintro A7 ⟨u3,u4,u5,u16,u17,unt,udf⟩;refine qW (zDh ai u16 u17 unt kN nX dW) ?_;refine⟨rfl,((Fr.refl _).new _).mod _ (.inl (zA1 _)),λH8 n8 s8=>?_⟩
  have gu:H8.get H6.nx=some (.arr (prC x) 133 0 0):=by
   rw[s8.get _ (by show H6.nx<H6.nx+1;omega) (by omega)];exact an rfl
  have keep:∀k,k<H5.nx->H8.get k=H6.get k:=λk hk=>by
   rw[s8.get _ (by show k<H6.nx+1;omega) (by omega),au (by omega),aS (by omega)]
  have n8':H8.nx=H6.nx+1:=n8;have b2:H8.get c2=some (.arr [.o (.str s)] 9 0 0):=(keep c2 (by omega)).trans a1;have b4:H8.get c4=some (.arr [.i .i64 0] 3 0 0):=(keep c4 (by omega)).trans a2;have b5:H8.get c5=some (.arr [.i .i64 0] 35 0 0):=(keep c5 (by omega)).trans a3;have lu:H6.nx<H8.nx:=by omega
  have m2:c2<H8.nx:=by omega
  have m4:c4<H8.nx:=by omega
  have m5:c5<H8.nx:=by omega
  refine R1.kX λK2 p1 p2 p3 p4=>?_;repeat refine R1.aF ?_
  by_cases T4:x.1=s
  ·rw[zB0 T4]at a4;have cs:(x.1==s)=true:=beq_iff_eq.2 T4;refine qW (zDk ai u3 unt gu lu b2 m2 bJ bC dW) ?_;refine qE λKx Ky hx hy=>?_;rw[fF,cs];refine hx ?_;clear hx hy Kx Ky;repeat' first|refine R1.ret ?_|refine R1.exit ?_|refine R1.skip ?_|refine R1.xg ?_|refine R1.oR ?_|refine R1.aF ?_|refine R1.bA ?_|refine R1.kZ ?_|((first|refine R1.Ik λK hK=>?_|refine R1.rR λK hK=>?_|refine R1.Iq (by kernel_rfl) λK hK=>?_|refine R1.FJ (by kernel_rfl) λK hK=>?_);simp only[qB,aK,Nat.reduceLT,Nat.reduceEqDiff,Nat.reduceLeDiff,reduceIte,Nat.reduceAdd,Nat.reduceSub,Nat.reduceMul,Int.reduceLT,Int.reduceLE,Int.reduceBEq,ai,u4,u5,unt,vp,dJ,b4,b5,m4,m5,au (Nat.ne_of_gt o45)];refine hK _ _ ?_;clear hK K)
   refine p4 _ _ ⟨by simp only[al,udf],((Fr.refl _).mod _ (.inr (.inl (.inl rfl)))).mod _ (.inr (.inl (.inr rfl))),(),λh=>(by cases h),λ_=>⟨rfl,?_,?_,by show H5.nx≤H8.nx;omega⟩,λk hk=>.inl hk⟩
   ·rw[au (by omega),<-a4];exact an rfl
   rw[<-a4];exact an rfl
  rw[zB1 T4]at a4;have cs:(x.1==s)=false:=zB5 T4;refine qW (zDk ai u3 unt gu lu b2 m2 bJ bC dW) ?_;refine qE λKx Ky hx hy=>?_;rw[fF,cs];refine hy ?_;clear hx hy Kx Ky;refine qV ?_;refine p1 _ _ ⟨by simp only[al,udf],Fr.refl _,(),λ_=>⟨b2,b4,b5,a4,by omega⟩,λh=>absurd rfl h,λk hk=>.inl hk⟩
 ·rintro s' H6 ⟨a1,a2,a3,a4,a5⟩ n6 n_ D8 Y5;have g6:Gr H H6:=gg.then D8 λk hk=>.inl (by rcases hk with rfl|rfl<;>omega);have m4:c4<H6.nx:=by omega
  have m5:c5<H6.nx:=by omega
  rw[List.drop_length,DP]at a4;refine k1 _ _ ?_;refine R1.jw (λA7=>slot A7.tm 4=.one (.o (.ptr c4 0 0 1))∧slot A7.tm 5=.one (.o (.ptr c5 0 0 1))∧A7.nt=23∧A7.dfr=[H5.nx]) ⟨t4,t5,A0,by show H5.nx::A.dfr=_;rw[B0]⟩ ?_;rintro A7 ⟨u4,u5,unt,udf⟩;repeat' first|refine R1.ret ?_|refine R1.exit ?_|refine R1.skip ?_|refine R1.xg ?_|refine R1.oR ?_|refine R1.aF ?_|refine R1.bA ?_|refine R1.kZ ?_|((first|refine R1.Ik λK hK=>?_|refine R1.rR λK hK=>?_|refine R1.Iq (by kernel_rfl) λK hK=>?_|refine R1.FJ (by kernel_rfl) λK hK=>?_);simp only[qB,aK,Nat.reduceLT,Nat.reduceEqDiff,Nat.reduceLeDiff,reduceIte,Nat.reduceAdd,Nat.reduceSub,Nat.reduceMul,Int.reduceLT,Int.reduceLE,Int.reduceBEq,ai,u4,u5,unt,vp,dJ,a2,a3,m4,m5,au (Nat.ne_of_gt o45)];refine hK _ _ ?_;clear hK K)
  refine fin .ret _ _ _ 0 11 (.inr rfl) (by simp only[al,udf];exact eG (by rw[au (by omega),au (by omega)];exact n_)) (((g6.mod _ (.inl (by omega))).mod _ (.inl (by omega))).mod _ (.inl (by have:=gg.nx;omega))) (by simp only[ae,Nat.reduceEqDiff,reduceIte,u4]) (by simp only[ae,Nat.reduceEqDiff,reduceIte,u5]) (by rw[au (by omega),au (by omega)];exact an rfl) (by rw[au (by omega)];exact an rfl) a4
 rintro e s' H6 Z0 ⟨rfl,a2,a3,a5⟩ n6 n_ D8 Y5;have g6:Gr H H6:=gg.then D8 λk hk=>.inl (by rcases hk with rfl|rfl<;>omega);exact k4 _ _ (fin .ret _ _ _ _ _ (.inr rfl) (by show closeAll H6 (H5.nx::A.dfr)=_;rw[B0];exact eG n_) (g6.mod _ (.inl (by have:=gg.nx;omega))) t4 t5 (by rw[au (by omega)];exact a2) (by rw[au (by omega)];exact a3) rfl)
def iA{n:List UInt8}{us:List Pr}(h:aH n us=0):us.length≤12∧(yv 1 us).length=us.length∧∀x∈us,1≤x.2∧x.2≤60:=by
 have hl:=iY h;unfold aH at h;by_cases hk:eL n us=true
 ·unfold eL at hk;simp only[Bool.and_eq_true,decide_eq_true_eq]at hk;have hy:=hk.1.2;exact⟨hl,hy,((uk 1 us).1 hy).1⟩
 rw[zB1 hk]at h;cases h
def Dy:∀(k:Nat)(v:Int)(us:List Pr)(s:List UInt8),(yv v us).length=us.length ->
  (mh k us s<0∧DP (yv v us) s=(0,11))∨∃j y,j<us.length∧mh k us s=((k+j:Nat):Int)∧(yv v us)[j]?=some y∧DP (yv v us) s=(y.2,0)
 |_,_,[],_,_=>.inl ⟨by unfold mh;omega,rfl⟩
 |k,v,x::us,s,h=>by
  unfold yv at h ⊢;by_cases hb:x.2<1∨60<x.2∨1099511627776<v*x.2
  ·rw[zB0 hb]at h;simp at h
  rw[zB1 hb]at h ⊢;rw[DP,mh];by_cases hs:x.1=s
  ·right;refine⟨0,(x,v*x.2),by simp,?_,rfl,?_⟩
   ·rw[zB0 hs];rfl
   rw[zB0 hs]
  rw[zB1 hs,zB1 hs];rcases Dy (k+1) (v*x.2) us s (by simpa using h)with⟨h1,h2⟩|⟨j,y,h0,h1,h2,h3⟩
  ·exact .inl ⟨h1,h2⟩
  refine .inr ⟨j+1,y,by rw[List.length_cons];omega,?_,by rw[List.getElem?_cons_succ];exact h2,h3⟩;rw[h1];omega
def SlI.gr{H H':Hp}{v:AC}{l:List Int}(h:SlI H v l)(hg:Gr H H'):SlI H' v l:=SlC.gr h hg
def SlI.len{H:Hp}{v:AC}{l:List Int}(h:SlI H v l):cW H 1 (.one v)=.val (.one (.i .i64 (l.length:Int))) H:=SlC.len h
def SlI.lt{H:Hp}{v:AC}{l:List Int}(h:SlI H v l):ltV (.one v) H.nx:=qj h
def SlI.nil{H:Hp}:SlI H (.o .nilS) []:=⟨by simp,.inl ⟨rfl,rfl⟩⟩
def SlI.open{H:Hp}{v:AC}{l:List Int}(h:SlI H v l)(hn:0<l.length):∃id g off cells,v=.o (.sl id g off l.length 1)∧id<H.nx∧rowOf (H.get id) g=some cells∧∀(i:Nat)(x:Int),l[i]?=some x->(cells.drop (off+i*1)).headD (.b false)=.i .i64 x∧off+i*1+1≤cells.length:=by
 obtain⟨id,g,off,h1,h2,hr⟩:=SlC.pos h hn
 have E3:=hr;obtain⟨cells,h3,h6,h7⟩:=hr
 refine⟨id,g,off,cells,h1,h2,h3,λi x hx=>?_⟩
 obtain⟨cells',k3,k6,k7⟩:=Rd.at (c:=Df) PZ E3 hx
 rw[h3]at k3;cases k3
 refine⟨?_,k6⟩
 cases hd:cells.drop (off+i*1)with
 |nil=>have:=congrArg List.length hd;simp at this;omega
 |cons a r=>
  rw[hd]at k7;have:=(List.cons.inj k7).1;rw[this];rfl
abbrev Cl:=Int×List UInt8×List UInt8×Nm
def ClR(H:Hp)(c:List AC)(x:Cl):Prop:=∃p q,c=[.i .i64 x.1,.o (.str x.2.1),.o (.str x.2.2.1),p,q]∧gS H p x.2.2.2.1∧gS H q x.2.2.2.2
def ClR.gr{H H':Hp}{c:List AC}{x:Cl}(h:ClR H c x)(hg:Gr H H'):ClR H' c x:=let ⟨p,q,h1,h2,h3⟩:=h;⟨p,q,h1,h2.gr hg,h3.gr hg⟩
def Vp{k:Int}{s t:List UInt8}{p q:AC}:oO [.i .i64 k,.o (.str s),.o (.str t),p,q]=(AV.one p).ids++(AV.one q).ids:=by
 simp only[Og,Qd,ZT,VI,List.nil_append,List.append_nil]
def Yj:LtR ClR:=λH c x⟨p,q,h1,h2,h3⟩i hi=>by
 subst h1;rw[Vp]at hi;rcases List.mem_append.1 hi with h|h
 ·exact h2.lt i h
 exact h3.lt i h
def dH(H:Hp)(v:AC)(l:List Cl):Prop:=SlR ClR 5 H v l
def dH.gr{H H':Hp}{v:AC}{l:List Cl}(h:dH H v l)(hg:Gr H H'):dH H' v l:=SlR.dG h hg.nx (λi hi=>hg.get i hi zB2) λ_ _ h=>h.gr hg
def dH.len{H:Hp}{v:AC}{l:List Cl}(h:dH H v l):cW H 1 (.one v)=.val (.one (.i .i64 (l.length:Int))) H:=SlR.len h
def dH.lt{H:Hp}{v:AC}{l:List Cl}(h:dH H v l):ltV (.one v) H.nx:=SlR.lt h
structure ClAt(H:Hp)(cells:List AC)(o:Nat)(x:Cl)(p q:AC):Prop where
 of1:gS H p x.2.2.2.1
 of2:gS H q x.2.2.2.2
 all:(cells.drop o).take 5=[.i .i64 x.1,.o (.str x.2.1),.o (.str x.2.2.1),p,q]
 le:o+5≤cells.length
 le1:o+1≤cells.length
 le2:o+1+1≤cells.length
 le3:o+2+1≤cells.length
 le4:o+3+2≤cells.length
 f1:(cells.drop o).headD (.b false)=.i .i64 x.1
 f2:(cells.drop (o+1)).headD (.b false)=.o (.str x.2.1)
 f3:(cells.drop (o+2)).headD (.b false)=.o (.str x.2.2.1)
 f4:(cells.drop (o+3)).take 2=[p,q]
def ZW{cells:List AC}{o:Nat}{a b c d e:AC}(h:(cells.drop o).take 5=[a,b,c,d,e]):(cells.drop o).headD (.b false)=a∧(cells.drop (o+1)).headD (.b false)=b∧(cells.drop (o+2)).headD (.b false)=c∧(cells.drop (o+3)).take 2=[d,e]:=by
 rw[<-List.drop_drop,<-List.drop_drop,<-List.drop_drop];match hd:cells.drop o,h with
 |x0::x1::x2::x3::x4::r,h=>
  simp only[List.take_succ_cons,List.take_zero,List.cons.injEq,and_true]at h;obtain⟨rfl,rfl,rfl,rfl,rfl⟩:=h
  exact⟨rfl,rfl,rfl,rfl⟩
def dH.open{H:Hp}{v:AC}{l:List Cl}(h:dH H v l)(hn:0<l.length):∃id g off cells,v=.o (.sl id g off l.length 5)∧id<H.nx∧rowOf (H.get id) g=some cells∧∀(i:Nat)(x:Cl),l[i]?=some x->∃p q,ClAt H cells (off+i*5) x p q:=by
 obtain⟨id,g,off,cells,h1,h2,h3,h4⟩:=SlR.open h hn
 refine⟨id,g,off,cells,h1,h2,h3,λi x hx=>?_⟩
 obtain⟨h5,c,h6,h7,p,q,rfl,h8,h9⟩:=h4 i x hx
 obtain⟨d1,d2,d3,d4⟩:=ZW h6
 exact⟨p,q,h8,h9,h6,h5,by omega,by omega,by omega,by omega,d1,d2,d3,d4⟩
abbrev Rl:=Int×List Int
def RlR(H:Hp)(c:List AC)(x:Rl):Prop:=∃u,c=[.i .i64 x.1,u]∧SlI H u x.2
def RlR.gr{H H':Hp}{c:List AC}{x:Rl}(h:RlR H c x)(hg:Gr H H'):RlR H' c x:=let ⟨u,h1,h2⟩:=h;⟨u,h1,h2.gr hg⟩
def dA(H:Hp)(v:AC)(l:List Rl):Prop:=SlR RlR 2 H v l
def dA.gr{H H':Hp}{v:AC}{l:List Rl}(h:dA H v l)(hg:Gr H H'):dA H' v l:=SlR.dG h hg.nx (λi hi=>hg.get i hi zB2) λ_ _ h=>h.gr hg
def dA.len{H:Hp}{v:AC}{l:List Rl}(h:dA H v l):cW H 1 (.one v)=.val (.one (.i .i64 (l.length:Int))) H:=SlR.len h
def dA.lt{H:Hp}{v:AC}{l:List Rl}(h:dA H v l):ltV (.one v) H.nx:=SlR.lt h
structure RlAt(H:Hp)(cells:List AC)(o:Nat)(x:Rl)(u:AC):Prop where
 of:SlI H u x.2
 all:(cells.drop o).take 2=[.i .i64 x.1,u]
 le:o+2≤cells.length
 le1:o+1≤cells.length
 le2:o+1+1≤cells.length
 f1:(cells.drop o).headD (.b false)=.i .i64 x.1
 f2:(cells.drop (o+1)).headD (.b false)=u
def YZ{cells:List AC}{o:Nat}{a b:AC}(h:(cells.drop o).take 2=[a,b]):(cells.drop o).headD (.b false)=a∧(cells.drop (o+1)).headD (.b false)=b:=by
 rw[<-List.drop_drop];match hd:cells.drop o,h with
 |x0::x1::r,h=>
  simp only[List.take_succ_cons,List.take_zero,List.cons.injEq,and_true]at h;obtain⟨rfl,rfl⟩:=h
  exact⟨rfl,rfl⟩
def dA.open{H:Hp}{v:AC}{l:List Rl}(h:dA H v l)(hn:0<l.length):∃id g off cells,v=.o (.sl id g off l.length 2)∧id<H.nx∧rowOf (H.get id) g=some cells∧∀(i:Nat)(x:Rl),l[i]?=some x->∃u,RlAt H cells (off+i*2) x u:=by
 obtain⟨id,g,off,cells,h1,h2,h3,h4⟩:=SlR.open h hn
 refine⟨id,g,off,cells,h1,h2,h3,λi x hx=>?_⟩
 obtain⟨h5,c,h6,h7,u,rfl,h8⟩:=h4 i x hx
 obtain⟨d1,d2⟩:=YZ h6
 exact⟨u,h8,h6,h5,by omega,by omega,d1,d2⟩
abbrev Pz:=List Cl×List Rl
structure PzB(p:Pz):Prop where
 c:p.1.length*88≤140737488355328
 r:p.2.length*32≤140737488355328
 t:∀x∈p.1,x.2.2.2.1.length*32≤140737488355328∧x.2.2.2.2.length*32≤140737488355328
 p:∀x∈p.2,x.2.length*8≤140737488355328
def xv:ao Tryz.prog 96=true:=by kernel_rfl
def bS(o:Option (List Lad))(s:List UInt8):Lad:=match o with
 |none=>([],[])
 |some ls=>(gN 0 ls s).elim ([],[]) λi=>ls.getD i ([],[])
def Qb.of{H:Hp}{c:List AC}{o:Option (List Lad)}{s:List UInt8}(h:Qb H c o s):∃u,c=[.o (.str (bS o s).1),u]∧SlP H u (bS o s).2:=by
 obtain⟨h1,h2⟩:=h
 cases o with
 |none=>exact⟨_,h1 (by rw[OB];decide),SlP.nil⟩
 |some ls=>
  rw[jU]at h1;cases hi:gN 0 ls s with
  |none=>
   rw[hi]at h1;have e:bS (some ls) s=([],[]):=by unfold bS;simp only[hi,Option.elim_none]
   rw[e];exact⟨_,h1 (by decide),SlP.nil⟩
  |some i=>
   obtain⟨x,hx,_⟩:=IJ hi
   have e:bS (some ls) s=x:=by unfold bS;simp only[hi,Option.elim_some];rw[List.getD_eq_getElem?_getD,hx];rfl
   rw[e];exact h2 ls i x rfl hi hx
def MV(acc:List Cl)(x:Cl):Bool:=acc.getLast?.any λy=>decide (x.1≤y.1)
def JC{l:List Cl}{i:Nat}{x y:Cl}(hi:0<i)(hy:l[i-1]?=some y):MV (l.take i) x=decide (x.1≤y.1):=by
 have h:(l.take i).getLast?=some y:=by
  have C0:=(List.getElem?_eq_some_iff.1 hy).1;rw[List.getLast?_eq_getElem?,List.length_take,Nat.min_eq_left (by omega),List.getElem?_take,zB0 (by omega)];exact hy
 unfold MV;rw[h];rfl
def goC(o:Option (List Lad)):List Cl->List Cl->Int
 |_,[]=>0
 |acc,x::l=>if x.1<0 then 53 else if 255<x.1 then 53 else if MV acc x=true then 53 else if nmB x.2.1=false then 53 else if oe o x.2.2.1≠0 then 4 else if nk x.2.2.2≠0 then nk x.2.2.2 else goC o (acc++[x]) l
def wg(H:Hp)(k v:AC)(o:Option (List Lad))(l:List Cl)(hk:bF H k o)(hL:∀ls,o=some ls->∀x∈ls,x.2.length≤1000000)(hv:dH H v l)(hB:l.length≤1000000):
  Con E2 96 [.one k,.one v] H (λ_=>False) λr _=>r=.one (.i .i64 (goC o [] l)):=by
 refine Con.of rfl λlg=>?_;have hk:bF ⟨H.t,H.nx,lg⟩ k o:=bF.same (H:=H) rfl rfl hk;have hv:dH ⟨H.t,H.nx,lg⟩ v l:=hv;generalize(⟨H.t,H.nx,lg⟩:Hp)=H at hk hv ⊢
 refine C1.body (E:=E2) (nt:=62) (res:=[.tmp 4]) Tryz.func96 rfl rfl rfl rfl rfl λtm z0=>?_;have h0:=z0 0 _ rfl;have h1:=z0 1 _ rfl;clear z0;have fin:∀(e:Int)(A:aa)(H3:Hp),slot A.tm 4=.one (.i .i64 e)->A.dfr=[]->Gr H H3->e=goC o [] l->∃w H4,aC E2 [.tmp 4] (.ret,A,H3)=.ok [(w,H4)]∧Gr H H4∧∀_:List Nat,w=.one (.i .i64 (goC o [] l)):=λe A H3 h1 h2 h3 h4=>⟨_,H3,aj (.i .i64 e) (.inr rfl) h2 h1,h3,λ_=>by rw[h4]⟩;generalize G0:goC o [] l=r0 at fin;refine qW (zDg ai h0 h1 iJ hv.len hv.lt) ?_;refine R1.ba λK k1 k2 k3 k4=>?_;refine R1.loop (λm A H2=>∃i:Nat,m=l.length-i∧i≤l.length∧Gr H H2∧goC o (l.take i) (l.drop i)=r0∧slot A.tm 0=.one (k)∧slot A.tm 1=.one (v)∧slot A.tm 10=.one (v)∧slot A.tm 11=.one (.i .i64 (l.length:Int))∧slot A.tm 12=.one (.i .i64 (i:Int))∧A.nt=62∧A.dfr=[]) ?_ l.length ⟨0,rfl,Nat.zero_le _,Fr.refl _,G0,?_⟩
 ·clear h0 h1 tm;rintro m A H2 ⟨i,rfl,hi,g2,hr,t0,t1,t10,t11,t12,A0,B0⟩;have R6:=hv.gr g2;have R2:=hk.gr g2;refine qW (zDe ai t11 t12 A0) ?_;refine qE λKx Ky hx hy=>?_;refine iy (λhc=>hx ?_) (λhc=>hy ?_)
  ·clear hx hy Kx Ky;have C0:i<l.length:=by omega
   have ex:=zB4 C0;have N0:=zC1 C0;have I2:=zC2 C0;have E0:l[i]∈l:=List.getElem_mem C0;generalize l[i]=x at ex N0 I2 E0;have B3:=zC0 i (by omega);obtain⟨id,g,off,cells,rfl,hid,B1,K0⟩:=R6.open (by omega)
   obtain⟨p,q,O0⟩:=K0 i x ex
   rw[N0,goC]at hr;refine qV ?_;refine R1.ba λK2 q1 q2 q3 q4=>?_;refine qG (zDm ai t10 t12 A0 iN BW BS Cn (ixC C0) hid B1 (qA O0.all O0.le)) λK hK=>?_;refine hK _ _ ?_;clear hK K;refine R1.gen (λA3 H3=>Gr H2 H3∧H2.nx<H3.nx∧H3.get H2.nx=some (.arr [.i .i64 x.1,.o (.str x.2.1),.o (.str x.2.2.1),p,q] 58 0 0)∧slot A3.tm 0=.one (k)∧slot A3.tm 1=.one ((.o (.sl id g off l.length 5)))∧slot A3.tm 5=.one (.i .i64 (i:Int))∧slot A3.tm 6=.one ((.o (.ptr H2.nx 0 0 5)))∧slot A3.tm 10=.one ((.o (.sl id g off l.length 5)))∧slot A3.tm 11=.one (.i .i64 (l.length:Int))∧slot A3.tm 12=.one (.i .i64 (i:Int))∧A3.nt=62∧A3.dfr=[])
    ⟨((Fr.refl _).new _).mod _ (.inl (zA1 _)),?_⟩ ?_
   ·exact qZ (zDh t0 t1 t10 t11 t12 A0 B0)
   clear t0 t1 t10 t11 t12 A0 B0 A;rintro A H3 ⟨g3,n3,rx,t0,t1,t5,t6,t10,t11,t12,A0,B0⟩;obtain⟨M,hM⟩:∃M,M=H2.nx:=⟨_,rfl⟩
   rw[<-hM]at rx n3 t6;have hgr3:rowOf (H3.get id) g=some cells:=by rw[g3.get _ hid zB2];exact B1
   have hid3:id<H3.nx:=zA0 hid g3.nx;have hk3:=R2.gr g3;have g13:=g2.gr g3;generalize M3:(if oe o x.2.2.1≠0 then 4 else if nk x.2.2.2≠0 then nk x.2.2.2 else goC o (l.take i++[x]) (l.drop (i+1)))=r1 at hr;repeat refine R1.aF ?_
   (first|refine R1.FJ (by kernel_rfl) λK hK=>?_|refine R1.Iq (by kernel_rfl) λK hK=>?_)
   have rest:∀(b:Bool)(A4:aa)(H4:Hp),Gr H3 H4->(if b=true then 53 else r1)=r0->slot A4.tm 0=.one (k)∧slot A4.tm 1=.one ((.o (.sl id g off l.length 5)))∧slot A4.tm 6=.one ((.o (.ptr M 0 0 5)))∧slot A4.tm 10=.one ((.o (.sl id g off l.length 5)))∧slot A4.tm 11=.one (.i .i64 (l.length:Int))∧slot A4.tm 12=.one (.i .i64 (i:Int))∧slot A4.tm 45=.one (.b b)∧A4.nt=62∧A4.dfr=[]->K A4 H4:=by
    clear hr t0 t1 t5 t6 t10 t11 t12 A0 B0 A;rintro b A H4 g4 hr ⟨t0,t1,t6,t10,t11,t12,t45,A0,B0⟩;refine hK _ _ ?_;clear hK K;have rx:=(g4.get _ n3 zB2).trans rx;have n3:=zA0 n3 g4.nx;have l9:=hk3.gr g4;have g14:=g13.gr g4;have g24:=g3.gr g4;clear g3;cases b with
    |true=>
     rw[zB0 rfl]at hr;refine qX t45 ?_;refine qW A0 ?_;exact q4 _ _ (k4 _ _ (fin (53) _ _ qp (qd B0) (g14) (hr)))
    |false=>
    rw[zB1 zA8,<-M3]at hr;refine qX t45 ?_;refine R1.bA ?_;refine qG (zDj ai t0 t6 A0 rx n3 jL bC nM) λK hK=>?_;refine WE.con (lh H4 k o x.2.2.1 l9 hL) λw H6 g6⟨c,hw,ha,J1⟩=>?_;subst hw;have rx:=(g6.get _ n3 zB2).trans rx;have n3:=zA0 n3 g6.nx;have g6:=g24.gr g6;refine qS (zDf ai A0 fh jC J1) ?_;refine hK _ _ ?_;clear hK K;refine R1.gen (λA7 H7=>Gr H2 H7∧H7.get M=some (.arr [.i .i64 x.1,.o (.str x.2.1),.o (.str x.2.2.1),p,q] 58 0 0)∧M<H7.nx∧slot A7.tm 0=.one (k)∧slot A7.tm 1=.one ((.o (.sl id g off l.length 5)))∧slot A7.tm 6=.one ((.o (.ptr M 0 0 5)))∧slot A7.tm 8=.one (.i .i64 ((oe o x.2.2.1):Int))∧slot A7.tm 10=.one ((.o (.sl id g off l.length 5)))∧slot A7.tm 11=.one (.i .i64 (l.length:Int))∧slot A7.tm 12=.one (.i .i64 (i:Int))∧A7.nt=62∧A7.dfr=[])
     ⟨(g6.new _).mod _ (.inl g6.nx),?_,?_,?_⟩ ?_
    ·rw[au (Nat.ne_of_lt n3),aS n3];exact rx
    ·exact Nat.lt_succ_of_lt n3
    ·repeat' (first|(simp only[ae,Nat.reduceEqDiff,reduceIte,az,al,t0,t1,t6,t10,t11,t12,A0,B0];first|done|rfl)|refine⟨?_,?_⟩)
    clear t0 t1 t6 t10 t11 t12 t45 A0 B0 A;rintro A H7 ⟨g7,rx,n7,t0,t1,t6,t8,t10,t11,t12,A0,B0⟩;generalize oe o x.2.2.1=e0 at hr t8;by_cases W0:e0=0
    case neg=>
     have ce:(e0==0)=false:=zB5 W0;rw[zB0 W0]at hr;refine qW (zDe ai t8 A0 ce) ?_;refine qY ?_;refine qW A0 ?_;exact q4 _ _ (k4 _ _ (fin (4) _ _ qp (qd B0) (g2.gr g7) (hr)))
    rw[zB1 (λh=>h W0)]at hr;have ce:(e0==0)=true:=by rw[W0];rfl
    refine qW (zDe ai t8 A0 ce) ?_;refine qY ?_;refine R1.bA ?_;have hp7:=O0.of1.gr g7;have hq7:=O0.of2.gr g7;refine qG (zDi ai t6 A0 rx n7 sI Jl Ee) λK hK=>?_;refine WE.con (Ch H7 p q x.2.2.2 hp7 hq7) λw H8 g8 hw=>?_;subst hw;have g8:=g7.gr g8;refine qS (qA ai A0) ?_;refine hK _ _ ?_;clear hK K;generalize nk x.2.2.2=e1 at hr ⊢;by_cases V6:e1=0
    case neg=>
     have ce:(e1==0)=false:=zB5 V6;rw[zB0 V6]at hr;refine qW (zDd ai A0 ce) ?_;refine qY ?_;refine qW A0 ?_;exact q4 _ _ (k4 _ _ (fin (e1) _ _ qp (qd B0) (g2.gr g8) (hr)))
    rw[zB1 (λh=>h V6),<-I2]at hr;have ce:(e1==0)=true:=by rw[V6];rfl
    refine qW (zDd ai A0 ce) ?_;refine qY ?_;refine qW A0 ?_;refine q1 _ _ ?_;refine qW (zDd A0 t12 B3) ?_;refine⟨l.length-(i+1),by omega,i+1,rfl,C0,g2.gr g8,hr,?_⟩
    repeat' (first|(simp only[ae,Nat.reduceEqDiff,reduceIte,az,al,t0,t1,t10,t11,t12,A0,B0];first|done|rfl)|refine⟨?_,?_⟩)
   clear hK;by_cases c0:x.1<0
   ·rw[zB0 c0]at hr;have c0:=eq_true c0;refine qS (zDi ai t6 A0 rx n3 gz bE c0) ?_;refine rest true _ _ (Fr.refl _) hr ?_;repeat' (first|(simp only[ae,Nat.reduceEqDiff,reduceIte,az,al,t0,t1,t6,t10,t11,t12,A0,B0];first|done|rfl)|refine⟨?_,?_⟩)
   rw[zB1 c0]at hr;by_cases c1:255<x.1
   ·rw[zB0 c1]at hr;have c0:=eq_false c0;have c1:(256≤x.1)=True:=eq_true (by omega);refine qS (zDj ai t6 A0 rx n3 gz bE c0 c1) ?_;refine rest true _ _ (Fr.refl _) hr ?_;repeat' (first|(simp only[ae,Nat.reduceEqDiff,reduceIte,az,al,t0,t1,t6,t10,t11,t12,A0,B0];first|done|rfl)|refine⟨?_,?_⟩)
   rw[zB1 c1]at hr;have c0:=eq_false c0;have c1:(256≤x.1)=False:=eq_false (by omega);by_cases l5:i=0
   ·have ci:((0:Int)<(i:Int))=False:=eq_false (by omega);rw[l5,List.take_zero,zB1 (by exact zA8)]at hr;refine qS (zDm ai t5 t6 A0 rx n3 gz nz bE bC c0 (zDd c1 ci kE)) ?_;refine WE.dQ (mq x.2.1) λH4 g4 n4 e4=>?_;refine qS (qA ai A0) ?_;refine rest (!nmB x.2.1) _ _ g4 ?_ ?_
    ·rw[<-hr];cases nmB x.2.1<;>rfl
    repeat' (first|(simp only[ae,Nat.reduceEqDiff,reduceIte,az,al,t0,t1,t6,t10,t11,t12,A0,B0];first|done|rfl)|refine⟨?_,?_⟩)
   have ci:((0:Int)<(i:Int))=True:=eq_true (by omega);have D7:i-1<l.length:=by omega
   have ey:l[i-1]?=some l[i-1]:=zB4 D7;have hpp:=λx=>JC (x:=x) (by omega) ey;generalize l[i-1]=y at ey hpp;obtain⟨p',q',O5⟩:=K0 (i-1) y ey
   have I5:IntKind.i64.wrap ((i:Int)-1)=((i-1:Nat):Int):=by rw[aP (by omega) (by omega)];omega
   rw[hpp x]at hr;by_cases c2:x.1≤y.1
   ·rw[zB0 (decide_eq_true c2)]at hr;have c2:=eq_true c2;refine qS (zDm ai t1 t5 t6 A0 rx n3 gz bE c0 c1 (zDj ci c2 I5 iN (ixC D7) hid3 hgr3 O5.f1 O5.le1)) ?_;refine rest true _ _ (Fr.refl _) hr ?_;repeat' (first|(simp only[ae,Nat.reduceEqDiff,reduceIte,az,al,t0,t1,t6,t10,t11,t12,A0,B0];first|done|rfl)|refine⟨?_,?_⟩)
   rw[zB1 (by rw[decide_eq_true_eq];exact c2)]at hr;have c2:=eq_false c2;refine qS (zDm ai t1 t5 t6 A0 rx n3 gz nz bE bC (zDm c0 c1 ci c2 I5 iN (ixC D7) hid3 hgr3 O5.f1 O5.le1 kE)) ?_;refine WE.dQ (mq x.2.1) λH4 g4 n4 e4=>?_;refine qS (qA ai A0) ?_;refine rest (!nmB x.2.1) _ _ g4 ?_ ?_
   ·rw[<-hr];cases nmB x.2.1<;>rfl
   repeat' (first|(simp only[ae,Nat.reduceEqDiff,reduceIte,az,al,t0,t1,t6,t10,t11,t12,A0,B0];first|done|rfl)|refine⟨?_,?_⟩)
  clear hx hy Kx Ky;have S1:i=l.length:=by omega
  rw[S1,List.drop_length,goC]at hr;refine qW A0 ?_;refine k2 _ _ ?_;refine qW A0 ?_;exact fin (0) _ _ qp (qd B0) (g2) (hr)
 repeat' (first|(simp only[ae,Nat.reduceEqDiff,reduceIte,az,al,h0,h1];first|done|rfl)|refine⟨?_,?_⟩)
def xB:ao Tryz.prog 97=true:=by kernel_rfl
def Wd:∃z,ay Tryz.prog 4=some z∧(ofValue z).cells=[.b false]:=⟨.bool false,fJ,rfl⟩
def oh(lc:List Cl)(m:Int):List UInt8:=(lc[m.toNat]?).elim [] λx=>x.2.2.1
def xH(acc:List Int)(m:Int):Bool:=acc.getLast?.any λy=>decide (m≤y)
def JG{l:List Int}{i:Nat}{x y:Int}(hi:0<i)(hy:l[i-1]?=some y):xH (l.take i) x=decide (x≤y):=by
 have h:(l.take i).getLast?=some y:=by
  have C0:=(List.getElem?_eq_some_iff.1 hy).1;rw[List.getLast?_eq_getElem?,List.length_take,Nat.min_eq_left (by omega),List.getElem?_take,zB0 (by omega)];exact hy
 unfold xH;rw[h];rfl
def fS(lc:List Cl)(t:Int):List Int->List Int->Bool
 |_,[]=>true
 |acc,m::l=>if m<0 then false else if(lc.length:Int)≤m then false else if xH acc m=true then false else if oh lc m≠oh lc t then false else fS lc t (acc++[m]) l
def goR(lc:List Cl):List Int->List Int->List Rl->Bool
 |T,S,[]=>(List.range lc.length).all λj=>!(T.any (λx=>x==(j:Int))&&S.any λx=>x==(j:Int))
 |T,S,x::l=>if x.1<0 then false else if(lc.length:Int)≤x.1 then false else if T.any (λy=>y==x.1)=true then false else if fS lc x.1 [] x.2=false then false else goR lc (T++[x.1]) (S++x.2) l
def uK(H:Hp)(a b:AC)(lc:List Cl)(lr:List Rl)(ha:dH H a lc)(hb:dA H b lr)(hC:lc.length≤1000000)(hR:lr.length≤1000000)(hP:∀x∈lr,x.2.length≤4611686018427387904):
  Con E2 97 [.agg [a,b]] H (λ_=>False) λr _=>r=.one (.b (goR lc [] [] lr)):=by
 refine Con.of rfl λlg=>?_;have ha:dH ⟨H.t,H.nx,lg⟩ a lc:=ha;have hb:dA ⟨H.t,H.nx,lg⟩ b lr:=hb;generalize(⟨H.t,H.nx,lg⟩:Hp)=H at ha hb ⊢
 refine C1.body (E:=E2) (nt:=111) (res:=[.tmp 2]) Tryz.func97 rfl rfl rfl rfl rfl λtm z0=>?_;have h0:=z0 0 _ rfl;clear z0;have fin:∀(e:Bool)(A:aa)(H3:Hp),slot A.tm 2=.one (.b e)->A.dfr=[]->Gr H H3->e=goR lc [] [] lr->∃w H4,aC E2 [.tmp 2] (.ret,A,H3)=.ok [(w,H4)]∧Gr H H4∧∀_:List Nat,w=.one (.b (goR lc [] [] lr)):=λe A H3 h1 h2 h3 h4=>⟨_,H3,aj (.b e) (.inr rfl) h2 h1,h3,λ_=>by rw[h4]⟩;generalize G0:goR lc [] [] lr=r0 at fin;have hA:=ha;have hB:=hb;obtain⟨z,hz,q8⟩:=Wd
 have mk:∀H,cL Tryz.prog H 232 (.one (.i .i64 (lc.length:Int))) (.one (.i .i64 (lc.length:Int)))=.val (.one (.o (.sl H.nx 0 0 lc.length 1))) (H.new (.arr ((List.replicate lc.length false).map AC.b) 4 0 0)):=λH=>by
  rw[oW gK Wv hz (by rw[q8];rfl) (by omega),q8,uv,List.map_replicate]
 refine qG (qA ai h0) λK hK=>?_;refine hK _ _ ?_;clear hK K;refine R1.gen (λA1 H1=>Gr H H1∧H.nx+1=H1.nx∧H1.get H.nx=some (.arr [a,b] 26 0 0)∧slot A1.tm 1=.one ((.o (.ptr H.nx 0 0 2)))∧A1.nt=111∧A1.dfr=[])
  ⟨(Fr.refl _).new _,rfl,?_⟩ ?_
 ·exact qU
 rintro A1 H1 ⟨g1,n1,r1,t1,A0,B0⟩;clear h0 tm;obtain⟨N,hN⟩:∃N,N=H.nx:=⟨_,rfl⟩
 rw[<-hN]at n1 r1 t1;have m1:N<H1.nx:=by omega
 have ha:=ha.gr g1;have hb:=hb.gr g1;refine qW (zDl ai t1 A0 r1 m1 cV fD iJ ha.len ha.lt mk) ?_;refine R1.gen (λA2 H2=>Gr H1 H2∧N+3=H2.nx∧H2.get N=some (.arr [a,b] 26 0 0)∧H2.get (N+1)=some (.arr ((List.replicate lc.length false).map AC.b) 4 0 0)∧H2.get (N+2)=some (.arr ((List.replicate lc.length false).map AC.b) 4 0 0)∧slot A2.tm 1=.one ((.o (.ptr N 0 0 2)))∧slot A2.tm 3=.one (.i .i64 (lc.length:Int))∧slot A2.tm 4=.one ((.o (.sl (N+1) 0 0 lc.length 1)))∧slot A2.tm 5=.one ((.o (.sl (N+2) 0 0 lc.length 1)))∧A2.nt=111∧A2.dfr=[])
  ⟨((Fr.refl _).new _).new _,by show _=H1.nx+1+1;omega,?_,?_,?_,?_⟩ ?_
 ·rw[aS (by show _<H1.nx+1;omega),aS m1];exact r1
 ·rw[aS (by show _<H1.nx+1;omega)];exact aB n1
 ·exact aB (by show _=H1.nx+1;omega)
 ·rw[n1];have e2:N+2=H1.nx+1:=by omega
  rw[e2];repeat' (first|(simp only[ae,Nat.reduceEqDiff,reduceIte,az,al,t1,A0,B0];first|done|rfl)|refine⟨?_,?_⟩)
 clear t1 A0 B0 A1;rintro A2 H2 ⟨g2,n2,r1,rs,rp,t1,t3,t4,t5,A0,B0⟩;clear m1 n1;have m1:N<H2.nx:=by omega
 have ha:=ha.gr g2;have hb:=hb.gr g2;have g2:=g1.gr g2;clear g1;have fits:∀{m:Int}{bs:List Bool},bs.length=lc.length->0≤m->m<lc.length->m.toNat+1≤(bs.map AC.b).length:=λh h1 h2=>by rw[List.length_map,h];omega
 have put:∀{m:Int}{bs:List Bool},bs.length=lc.length->0≤m->m<lc.length->List.take m.toNat (List.map AC.b bs)++AC.b true::List.drop (m.toNat+1) (List.map AC.b bs)=(bs.set m.toNat true).map AC.b:=λh h1 h2=>setRow AC.b _ _ _ (by rw[h];omega);refine qW (zDk ai t1 A0 r1 m1 gM mT lX hb.len hb.lt) ?_;refine R1.ba λK k1 k2 k3 k4=>?_;refine R1.loop (λm A H3=>∃(i:Nat)(T S:List Int)(bs ps:List Bool),m=lr.length-i∧i≤lr.length∧Gr H H3∧N+3≤H3.nx∧H3.get N=some (.arr [a,b] 26 0 0)∧H3.get (N+1)=some (.arr (bs.map AC.b) 4 0 0)∧H3.get (N+2)=some (.arr (ps.map AC.b) 4 0 0)∧Mk bs lc.length T∧Mk ps lc.length S∧goR lc T S (lr.drop i)=r0 ∧
   slot A.tm 1=.one ((.o (.ptr N 0 0 2)))∧slot A.tm 3=.one (.i .i64 (lc.length:Int))∧slot A.tm 4=.one ((.o (.sl (N+1) 0 0 lc.length 1)))∧slot A.tm 5=.one ((.o (.sl (N+2) 0 0 lc.length 1)))∧slot A.tm 19=.one (b)∧slot A.tm 20=.one (.i .i64 (lr.length:Int))∧slot A.tm 21=.one (.i .i64 (i:Int))∧A.nt=111∧A.dfr=[]) ?_ lr.length
  ⟨0,[],[],_,_,rfl,Nat.zero_le _,g2,Nat.le_of_eq n2,r1,rs,rp,Mk.nil _,Mk.nil _,G0,?_⟩
 ·clear t1 t3 t4 t5 A0 B0 A2 r1 rs rp G0;rintro m A H3 ⟨i,T,S,bs,ps,rfl,hi,g3,n3,r1,rs,rp,hT,hS,hr,t1,t3,t4,t5,t19,t20,t21,A0,B0⟩;have hb3:=hB.gr g3;have m1:N<H3.nx:=by omega
  have o1:N+1<H3.nx:=by omega
  have o2:N+2<H3.nx:=by omega
  refine qW (zDe ai t20 t21 A0) ?_;refine qE λKx Ky hx hy=>?_;refine iy (λhc=>hx ?_) (λhc=>hy ?_)
  ·clear hx hy Kx Ky;have C0:i<lr.length:=by omega
   have ex:lr[i]?=some lr[i]:=zB4 C0;have N0:lr.drop i=lr[i]::lr.drop (i+1):=List.drop_eq_getElem_cons C0;have I2:lr.take (i+1)=lr.take i++[lr[i]]:=List.take_succ_eq_append_getElem C0;have E0:lr[i]∈lr:=List.getElem_mem C0;generalize lr[i]=x at ex N0 I2 E0;have B3:=zC0 i (by omega);obtain⟨id,g,off,cells,rfl,U2,hgr0,K0⟩:=hB.open (by omega)
   have hid:id<H3.nx:=zA0 U2 g3.nx;have B1:rowOf (H3.get id) g=some cells:=by rw[g3.get _ U2 zB2];exact hgr0
   obtain⟨u,O0⟩:=K0 i x ex
   have hu:=O0.of;have hPx:=hP x E0;rw[N0,goR]at hr;generalize Z2:fS lc x.1 [] x.2=b1 at hr;generalize M3:(if b1=false then false else goR lc (T++[x.1]) (S++x.2) (lr.drop (i+1)))=r1' at hr;refine qV ?_;refine R1.ba λK2 q1 q2 q3 q4=>?_;refine qG (zDm ai t19 t21 A0 wT BY Dl CA (ixC C0) hid B1 (qA O0.all O0.le)) λK hK=>?_;refine hK _ _ ?_;clear hK K;refine R1.gen (λA4 H4=>Gr H3 H4∧H3.nx<H4.nx∧H4.get H3.nx=some (.arr [.i .i64 x.1,u] 82 0 0)∧slot A4.tm 1=.one ((.o (.ptr N 0 0 2)))∧slot A4.tm 3=.one (.i .i64 (lc.length:Int))∧slot A4.tm 4=.one ((.o (.sl (N+1) 0 0 lc.length 1)))∧slot A4.tm 5=.one ((.o (.sl (N+2) 0 0 lc.length 1)))∧slot A4.tm 7=.one ((.o (.ptr H3.nx 0 0 2)))∧slot A4.tm 19=.one ((.o (.sl id g off lr.length 2)))∧slot A4.tm 20=.one (.i .i64 (lr.length:Int))∧slot A4.tm 21=.one (.i .i64 (i:Int))∧A4.nt=111∧A4.dfr=[])
    ⟨((Fr.refl _).new _).mod _ (.inl (zA1 _)),?_⟩ ?_
   ·exact qZ (zDj t1 t3 t4 t5 t19 t20 t21 A0 B0)
   clear t1 t3 t4 t5 t19 t20 t21 A0 B0 A;rintro A H4 ⟨g4,n4,rx,t1,t3,t4,t5,t7,t19,t20,t21,A0,B0⟩;obtain⟨M,hM⟩:∃M,M=H3.nx:=⟨_,rfl⟩
   rw[<-hM]at rx n4 t7;have r1:=(g4.get _ m1 zB2).trans r1;have m1:=zA0 m1 g4.nx;have rs:=(g4.get _ o1 zB2).trans rs;have o1:=zA0 o1 g4.nx;have rp:=(g4.get _ o2 zB2).trans rp;have o2:=zA0 o2 g4.nx;have hNM:N+3≤M:=by omega
   have g4:=g3.gr g4;clear B1 hid hb3 O0 K0 U2 hgr0;repeat refine R1.aF ?_
   (first|refine R1.rR λK hK=>?_|refine R1.Ik λK hK=>?_)
   have rest:∀(b:Bool)(A5:aa),(b=false->0≤x.1∧x.1<lc.length)->(if b=true then false else r1')=r0->slot A5.tm 1=.one ((.o (.ptr N 0 0 2)))∧slot A5.tm 3=.one (.i .i64 (lc.length:Int))∧slot A5.tm 4=.one ((.o (.sl (N+1) 0 0 lc.length 1)))∧slot A5.tm 5=.one ((.o (.sl (N+2) 0 0 lc.length 1)))∧slot A5.tm 7=.one ((.o (.ptr M 0 0 2)))∧slot A5.tm 19=.one ((.o (.sl id g off lr.length 2)))∧slot A5.tm 20=.one (.i .i64 (lr.length:Int))∧slot A5.tm 21=.one (.i .i64 (i:Int))∧slot A5.tm 40=.one (.b b)∧A5.nt=111∧A5.dfr=[]->K A5 H4:=by
    clear hr t1 t3 t4 t5 t7 t19 t20 t21 A0 B0 A;rintro b A hxb hr ⟨t1,t3,t4,t5,t7,t19,t20,t21,t40,A0,B0⟩;refine hK _ _ ?_;clear hK K;cases b with
    |true=>
     rw[zB0 rfl]at hr;refine qX t40 ?_;refine qW A0 ?_;exact q4 _ _ (k4 _ _ (fin (false) _ _ qp (qd B0) (g4) (hr)))
    |false=>
    rw[zB1 zA8]at hr;obtain⟨X2,U7⟩:=hxb rfl
    refine qX t40 ?_;refine R1.bA ?_;refine qG (zDm ai t4 t7 A0 rx n4 rs o1 fw bE gK (zDf tL (ixI X2 U7) Nat.mul_one (fits hT.1 X2 U7) (put hT.1 X2 U7))) λK hK=>?_;refine hK _ _ ?_;clear hK K;have hT:=hT.set X2 U7;generalize bs.set x.1.toNat true=bs at hT ⊢;have g5:Gr H (H4.mod (N+1) (.arr (bs.map AC.b) 4 0 0)):=g4.mod _ (.inl (by omega));have r1:(H4.mod (N+1) (.arr (bs.map AC.b) 4 0 0)).get N=_:=(au (by omega)).trans r1;have rx:(H4.mod (N+1) (.arr (bs.map AC.b) 4 0 0)).get M=_:=(au (by omega)).trans rx;have rp:(H4.mod (N+1) (.arr (bs.map AC.b) 4 0 0)).get (N+2)=_:=(au (by omega)).trans rp;have rs:(H4.mod (N+1) (.arr (bs.map AC.b) 4 0 0)).get (N+1)=_:=an rfl;have n5:M<(H4.mod (N+1) (.arr (bs.map AC.b) 4 0 0)).nx:=n4;generalize(H4.mod (N+1) (.arr (bs.map AC.b) 4 0 0))=H5 at g5 r1 rx rp rs n5 ⊢
    clear g4 n4 m1 o1 o2;have W4:=hu.gr g5;refine qG (zDk ai t7 A0 rx n5 jN nC Da W4.len W4.lt) λK hK=>?_;refine hK _ _ ?_;clear hK K;refine R1.kX λK p1 p2 p3 p4=>?_;refine R1.loop (λm A H6=>∃(j:Nat)(ps:List Bool),m=x.2.length-j∧j≤x.2.length∧Gr H H6∧M<H6.nx∧H6.get N=some (.arr [a,.o (.sl id g off lr.length 2)] 26 0 0)∧H6.get (N+1)=some (.arr (bs.map AC.b) 4 0 0)∧H6.get (N+2)=some (.arr (ps.map AC.b) 4 0 0)∧H6.get M=some (.arr [.i .i64 x.1,u] 82 0 0)∧Mk ps lc.length (S++x.2.take j)∧fS lc x.1 (x.2.take j) (x.2.drop j)=b1 ∧
     slot A.tm 1=.one ((.o (.ptr N 0 0 2)))∧slot A.tm 3=.one (.i .i64 (lc.length:Int))∧slot A.tm 4=.one ((.o (.sl (N+1) 0 0 lc.length 1)))∧slot A.tm 5=.one ((.o (.sl (N+2) 0 0 lc.length 1)))∧slot A.tm 7=.one ((.o (.ptr M 0 0 2)))∧slot A.tm 19=.one ((.o (.sl id g off lr.length 2)))∧slot A.tm 20=.one (.i .i64 (lr.length:Int))∧slot A.tm 21=.one (.i .i64 (i:Int))∧slot A.tm 46=.one (u)∧slot A.tm 47=.one (.i .i64 (x.2.length:Int))∧slot A.tm 48=.one (.i .i64 (j:Int))∧A.nt=111∧A.dfr=[]) ?_ x.2.length
     ⟨0,_,rfl,Nat.zero_le _,g5,n5,r1,rs,rp,rx,by rw[List.take_zero,List.append_nil];exact hS,Z2,?_⟩
    ·clear t1 t3 t4 t5 t7 t19 t20 t21 t40 A0 B0 A hS r1 rs rp rx n5 W4 g5 Z2;rintro m A H6 ⟨j,ps,rfl,hj,g6,n6,r1,rs,rp,rx,hS,Z2,t1,t3,t4,t5,t7,t19,t20,t21,t46,t47,t48,A0,B0⟩;have m1:N<H6.nx:=by omega
     have o2:N+2<H6.nx:=by omega
     refine qW (zDe ai t47 t48 A0) ?_;refine qE λKx Ky hx hy=>?_;refine iy (λN7=>hx ?_) (λN7=>hy ?_)
     ·clear hx hy Kx Ky;have E9:j<x.2.length:=by omega
      have hdj:x.2.drop j=x.2[j]::x.2.drop (j+1):=List.drop_eq_getElem_cons E9;have htj:x.2.take (j+1)=x.2.take j++[x.2[j]]:=List.take_succ_eq_append_getElem E9;have ej:x.2[j]?=some x.2[j]:=zB4 E9;generalize x.2[j]=m at hdj htj ej;have hwj:=zC0 j (by omega);have A6:=hu.gr g6;have ha6:=hA.gr g6;obtain⟨ui,ug,uo,uc,rfl,b9,hug,hut⟩:=A6.open (by omega)
      have K_:=hut j m ej;rw[hdj,fS]at Z2;refine qV ?_;refine R1.ba λK3 w1 w2 w3 w4=>?_;refine qG (zDl ai t46 t48 A0 er bE (ixC E9) b9 hug K_.1 K_.2) λK hK=>?_;refine hK _ _ ?_;clear hK K;refine R1.gen (λA7 H7=>H7=H6∧slot A7.tm 1=.one ((.o (.ptr N 0 0 2)))∧slot A7.tm 3=.one (.i .i64 (lc.length:Int))∧slot A7.tm 4=.one ((.o (.sl (N+1) 0 0 lc.length 1)))∧slot A7.tm 5=.one ((.o (.sl (N+2) 0 0 lc.length 1)))∧slot A7.tm 7=.one ((.o (.ptr M 0 0 2)))∧slot A7.tm 8=.one (.i .i64 (j:Int))∧slot A7.tm 9=.one (.i .i64 (m:Int))∧slot A7.tm 19=.one ((.o (.sl id g off lr.length 2)))∧slot A7.tm 20=.one (.i .i64 (lr.length:Int))∧slot A7.tm 21=.one (.i .i64 (i:Int))∧slot A7.tm 46=.one ((.o (.sl ui ug uo x.2.length 1)))∧slot A7.tm 47=.one (.i .i64 (x.2.length:Int))∧slot A7.tm 48=.one (.i .i64 (j:Int))∧A7.nt=111∧A7.dfr=[])
       ⟨rfl,?_⟩ ?_
      ·repeat' (first|(simp only[ae,Nat.reduceEqDiff,reduceIte,az,al,t1,t3,t4,t5,t7,t19,t20,t21,t46,t47,t48,A0,B0];first|done|rfl)|refine⟨?_,?_⟩)
      clear t1 t3 t4 t5 t7 t19 t20 t21 t46 t47 t48 A0 B0 A;rintro A H7 ⟨rfl,t1,t3,t4,t5,t7,t8,t9,t19,t20,t21,t46,t47,t48,A0,B0⟩;generalize hb2:fS lc x.1 (x.2.take j++[m]) (x.2.drop (j+1))=b2 at Z2;repeat refine R1.aF ?_
      (first|refine R1.FJ (by kernel_rfl) λK hK=>?_|refine R1.Iq (by kernel_rfl) λK hK=>?_)
      have rest2:∀(b:Bool)(A8:aa),(b=false->0≤m∧m<lc.length)->(if b=true then false else b2)=b1->slot A8.tm 1=.one ((.o (.ptr N 0 0 2)))∧slot A8.tm 3=.one (.i .i64 (lc.length:Int))∧slot A8.tm 4=.one ((.o (.sl (N+1) 0 0 lc.length 1)))∧slot A8.tm 5=.one ((.o (.sl (N+2) 0 0 lc.length 1)))∧slot A8.tm 7=.one ((.o (.ptr M 0 0 2)))∧slot A8.tm 9=.one (.i .i64 (m:Int))∧slot A8.tm 19=.one ((.o (.sl id g off lr.length 2)))∧slot A8.tm 20=.one (.i .i64 (lr.length:Int))∧slot A8.tm 21=.one (.i .i64 (i:Int))∧slot A8.tm 46=.one ((.o (.sl ui ug uo x.2.length 1)))∧slot A8.tm 47=.one (.i .i64 (x.2.length:Int))∧slot A8.tm 48=.one (.i .i64 (j:Int))∧slot A8.tm 89=.one (.b b)∧A8.nt=111∧A8.dfr=[]->K A8 H7:=by
       clear Z2 t1 t3 t4 t5 t7 t8 t9 t19 t20 t21 t46 t47 t48 A0 B0 A;rintro b A hmb Z2 ⟨t1,t3,t4,t5,t7,t9,t19,t20,t21,t46,t47,t48,t89,A0,B0⟩;refine hK _ _ ?_;clear hK K;cases b with
       |true=>
        rw[zB0 rfl]at Z2;rw[<-Z2,zB0 rfl]at M3;rw[<-M3]at hr;refine qX t89 ?_;refine qW A0 ?_;exact w4 _ _ (p4 _ _ (q4 _ _ (k4 _ _ (fin (false) _ _ qp (qd B0) (g6) (hr)))))
       |false=>
       rw[zB1 zA8,<-hb2,<-htj]at Z2;obtain⟨L',W_⟩:=hmb rfl
       refine qX t89 ?_;refine R1.bA ?_;refine qG (zDm ai t5 t9 A0 rp o2 gK tL (ixI L' W_) Nat.mul_one (fits hS.1 L' W_) (put hS.1 L' W_)) λK hK=>?_;refine hK _ _ ?_;clear hK K;refine w1 _ _ ?_;refine qW (zDd A0 t48 hwj) ?_;have hS:=hS.set L' W_;rw[List.append_assoc,<-htj]at hS;refine⟨x.2.length-(j+1),by omega,j+1,ps.set m.toNat true,rfl,E9,g6.mod _ (.inl (by omega)),n6,(au (by omega)).trans r1,(au (by omega)).trans rs,an rfl,(au (by omega)).trans rx,hS,Z2,?_⟩
       repeat' (first|(simp only[ae,Nat.reduceEqDiff,reduceIte,az,al,t1,t3,t4,t5,t7,t19,t20,t21,t46,t47,t48,A0,B0];first|done|rfl)|refine⟨?_,?_⟩)
      clear hK;by_cases c0:m<0
      ·rw[zB0 c0]at Z2;have c0:=eq_true c0;refine qS (zDe ai t9 A0 c0) ?_;refine rest2 true _ (λh=>by cases h) Z2 ?_;repeat' (first|(simp only[ae,Nat.reduceEqDiff,reduceIte,az,al,t1,t3,t4,t5,t7,t9,t19,t20,t21,t46,t47,t48,A0,B0];first|done|rfl)|refine⟨?_,?_⟩)
      rw[zB1 c0]at Z2;by_cases c1:(lc.length:Int)≤m
      ·rw[zB0 c1]at Z2;have c0:=eq_false c0;have c1:=eq_true c1;refine qS (zDg ai t3 t9 A0 c0 c1) ?_;refine rest2 true _ (λh=>by cases h) Z2 ?_;repeat' (first|(simp only[ae,Nat.reduceEqDiff,reduceIte,az,al,t1,t3,t4,t5,t7,t9,t19,t20,t21,t46,t47,t48,A0,B0];first|done|rfl)|refine⟨?_,?_⟩)
      rw[zB1 c1]at Z2;have L':0≤m:=by omega
      have W_:m<lc.length:=by omega
      have c0:=eq_false c0;have c1:=eq_false c1;obtain⟨ci,cg,co,cc,rfl,q9,hcg,hct⟩:=ha6.open (by omega)
      have em:lc[m.toNat]?=some lc[m.toNat]:=zB4 (by omega);have et:lc[x.1.toNat]?=some lc[x.1.toNat]:=zB4 (by omega);have lm:oh lc m=lc[m.toNat].2.2.1:=by unfold oh;rw[em];rfl
      have lt:oh lc x.1=lc[x.1.toNat].2.2.1:=by unfold oh;rw[et];rfl
      rw[lm,lt]at Z2;generalize lc[m.toNat]=ym at em Z2;generalize lc[x.1.toNat]=yt at et Z2;obtain⟨_,_,S_⟩:=hct _ _ em
      obtain⟨_,_,hyt⟩:=hct _ _ et
      have m2:M<H7.nx:=n6;have last:∀(d:Bool),(if ym.2.2.1≠yt.2.2.1 then false else b2)=b1->lEq ym.2.2.1 yt.2.2.1=d->(if(!d)=true then false else b2)=b1:=λd h e=>by
       rw[fF]at e;cases d with
       |true=>rw[zB1 (λhn=>hn (eq_of_beq e))]at h;exact h
       |false=>rw[zB0 (ne_of_beq_false e)]at h;exact h
      generalize hle:lEq ym.2.2.1 yt.2.2.1=d at last;by_cases hj0:j=0
      ·have cj:((0:Int)<(j:Int))=False:=eq_false (by omega);rw[hj0,List.take_zero,zB1 (by exact zA8)]at Z2;refine qS (zDm ai t1 t3 t7 t8 t9 A0 c0 c1 cj r1 (zDm m1 rx m2 cV fD iN jL bC fw bE (ixI L' W_) (zDi (ixI X2 U7) q9 hcg S_.f3 S_.le3 hyt.f3 hyt.le3 hle))) ?_;refine rest2 (!d) _ (λ_=>⟨L',W_⟩) (last d Z2 rfl) ?_;repeat' (first|(simp only[ae,Nat.reduceEqDiff,reduceIte,az,al,t1,t3,t4,t5,t7,t9,t19,t20,t21,t46,t47,t48,A0,B0];first|done|rfl)|refine⟨?_,?_⟩)
      have cj:((0:Int)<(j:Int))=True:=eq_true (by omega);have D7:j-1<x.2.length:=by omega
      have ey:x.2[j-1]?=some x.2[j-1]:=zB4 D7;have hpp:=λz=>JG (x:=z) (by omega) ey;generalize x.2[j-1]=y at ey hpp;have O5:=hut (j-1) y ey;have I5:IntKind.i64.wrap ((j:Int)-1)=((j-1:Nat):Int):=by rw[aP (by omega) (by omega)];omega
      rw[hpp m]at Z2;by_cases c2:m≤y
      ·rw[zB0 (decide_eq_true c2)]at Z2;have c2:=eq_true c2;refine qS (zDm ai t3 t7 t8 t9 A0 c0 c1 cj c2 I5 (zDl rx m2 jN nC er bE (ixC D7) b9 hug O5.1 O5.2)) ?_;refine rest2 true _ (λh=>by cases h) Z2 ?_;repeat' (first|(simp only[ae,Nat.reduceEqDiff,reduceIte,az,al,t1,t3,t4,t5,t7,t9,t19,t20,t21,t46,t47,t48,A0,B0];first|done|rfl)|refine⟨?_,?_⟩)
      rw[zB1 (by rw[decide_eq_true_eq];exact c2)]at Z2;have c2:=eq_false c2;refine qS (zDm ai t1 t3 t7 t8 t9 A0 c0 c1 cj c2 (zDm I5 r1 m1 rx m2 cV fD iN jL bC fw (zDm jN nC er bE (ixC D7) b9 hug O5.1 O5.2 (ixI L' W_) (ixI X2 U7) (zDh q9 hcg S_.f3 S_.le3 hyt.f3 hyt.le3 hle)))) ?_;refine rest2 (!d) _ (λ_=>⟨L',W_⟩) (last d Z2 rfl) ?_;repeat' (first|(simp only[ae,Nat.reduceEqDiff,reduceIte,az,al,t1,t3,t4,t5,t7,t9,t19,t20,t21,t46,t47,t48,A0,B0];first|done|rfl)|refine⟨?_,?_⟩)
     clear hx hy Kx Ky;have Y_:j=x.2.length:=by omega
     rw[Y_,List.drop_length,fS]at Z2;rw[Y_,List.take_length]at hS;rw[<-Z2,zB1 (by decide)]at M3;rw[<-M3]at hr;refine qW A0 ?_;refine p2 _ _ (q1 _ _ ?_);refine qW (zDd A0 t21 B3) ?_;refine⟨lr.length-(i+1),by omega,i+1,T++[x.1],S++x.2,bs,ps,rfl,C0,g6,by omega,r1,rs,rp,hT,hS,hr,?_⟩
     repeat' (first|(simp only[ae,Nat.reduceEqDiff,reduceIte,az,al,t1,t3,t4,t5,t19,t20,t21,A0,B0];first|done|rfl)|refine⟨?_,?_⟩)
    repeat' (first|(simp only[ae,Nat.reduceEqDiff,reduceIte,az,al,t1,t3,t4,t5,t7,t19,t20,t21,A0,B0];first|done|rfl)|refine⟨?_,?_⟩)
   clear hK;by_cases c0:x.1<0
   ·rw[zB0 c0]at hr;have c0:=eq_true c0;refine qS (zDi ai t7 A0 rx n4 fw bE c0) ?_;refine rest true _ (λh=>by cases h) hr ?_;repeat' (first|(simp only[ae,Nat.reduceEqDiff,reduceIte,az,al,t1,t3,t4,t5,t7,t19,t20,t21,A0,B0];first|done|rfl)|refine⟨?_,?_⟩)
   rw[zB1 c0]at hr;by_cases c1:(lc.length:Int)≤x.1
   ·rw[zB0 c1]at hr;have c0:=eq_false c0;have c1:=eq_true c1;refine qS (zDk ai t3 t7 A0 rx n4 fw bE c0 c1) ?_;refine rest true _ (λh=>by cases h) hr ?_;repeat' (first|(simp only[ae,Nat.reduceEqDiff,reduceIte,az,al,t1,t3,t4,t5,t7,t19,t20,t21,A0,B0];first|done|rfl)|refine⟨?_,?_⟩)
   rw[zB1 c1]at hr;have X2:0≤x.1:=by omega
   have U7:x.1<lc.length:=by omega
   have c0:=eq_false c0;have c1:=eq_false c1;refine qS (zDm ai t3 t4 t7 A0 rx n4 rs o1 fw bE (zDj jr c0 c1 gK (ixI X2 U7) Nat.mul_one (fits hT.1 X2 U7) CY (hT.at X2 U7))) ?_;refine rest (T.any λy=>y==x.1) _ (λ_=>⟨X2,U7⟩) hr ?_;repeat' (first|(simp only[ae,Nat.reduceEqDiff,reduceIte,az,al,t1,t3,t4,t5,t7,t19,t20,t21,A0,B0];first|done|rfl)|refine⟨?_,?_⟩)
  clear hx hy Kx Ky;have S1:i=lr.length:=by omega
  rw[S1,List.drop_length,goR]at hr;have bad:∀j:Nat,j<lc.length->((T.any λx=>x==(j:Int))&&S.any λx=>x==(j:Int))=true->false=r0:=λj hj h=>by
   rw[<-hr];exact(List.all_eq_false.2 ⟨j,List.mem_range.2 hj,by rw[h];decide⟩).symm
  have good:(∀j:Nat,j<lc.length->((T.any λx=>x==(j:Int))&&S.any λx=>x==(j:Int))=false)->true=r0:=λh=>by
   rw[<-hr];exact(List.all_eq_true.2 λj hj=>by rw[h j (List.mem_range.1 hj)];rfl).symm
  clear hr;refine qW A0 ?_;refine k2 _ _ ?_;clear k1 k2 k3 k4 K;refine qW (zDf ai t4 A0 xj o1) ?_;refine R1.ba λK k1 k2 k3 k4=>?_;refine R1.loop (λm A H4=>∃j:Nat,m=lc.length-j∧j≤lc.length∧H4=H3∧(∀j':Nat,j'<j->((T.any λx=>x==(j':Int))&&S.any λx=>x==(j':Int))=false)∧slot A.tm 4=.one ((.o (.sl (N+1) 0 0 lc.length 1)))∧slot A.tm 5=.one ((.o (.sl (N+2) 0 0 lc.length 1)))∧slot A.tm 96=.one (.i .i64 (lc.length:Int))∧slot A.tm 97=.one (.i .i64 (j:Int))∧A.nt=111∧A.dfr=[]) ?_ lc.length
   ⟨0,rfl,Nat.zero_le _,rfl,λj' h=>absurd h (Nat.not_lt_zero _),?_⟩
  ·clear t1 t3 t4 t5 t19 t20 t21 A0 B0 A;rintro m A H4 ⟨j,rfl,hj,rfl,Z1,t4,t5,t96,t97,A0,B0⟩;refine qW (zDe ai t96 t97 A0) ?_;refine qE λKx Ky hx hy=>?_;refine iy (λhc=>hx ?_) (λhc=>hy ?_)
   ·clear hx hy Kx Ky;have E9:j<lc.length:=by omega
    have hwj:=zC0 j (by omega);have l6:j+1≤(bs.map AC.b).length:=by rw[List.length_map,hT.1];exact E9
    have P':j+1≤(ps.map AC.b).length:=by rw[List.length_map,hS.1];exact E9
    have e1:=hT.2 j E9;have e2:=hS.2 j E9;have M9:=bad j E9;have U6:((T.any λx=>x==(j:Int))&&S.any λx=>x==(j:Int))=false->∀j':Nat,j'<j+1->((T.any λx=>x==(j':Int))&&S.any λx=>x==(j':Int))=false:=λh j' R5=>by
     rcases Nat.lt_or_eq_of_le (Nat.le_of_lt_succ R5)with h'|h'
     ·exact Z1 j' h'
     rw[h'];exact h
    generalize(T.any λx=>x==(j:Int))=d1 at e1 M9 U6
    generalize(S.any λx=>x==(j:Int))=d2 at e2 M9 U6
    refine qV ?_;refine R1.ba λK2 q1 q2 q3 q4=>?_;refine qW (zDd ai t97 A0) ?_;cases d1 with
    |false=>
     refine qG (zDm ai t4 t97 A0 rs o1 gK jr (ixC E9) Nat.mul_one l6 (qA CY e1)) λK hK=>?_;refine hK _ _ ?_;clear hK K;refine qY ?_;refine qW A0 ?_;refine q1 _ _ ?_;refine qW (zDd A0 t97 hwj) ?_;refine⟨lc.length-(j+1),by omega,j+1,rfl,E9,rfl,U6 rfl,?_⟩
     repeat' (first|(simp only[ae,Nat.reduceEqDiff,reduceIte,az,al,t4,t5,t96,t97,A0,B0];first|done|rfl)|refine⟨?_,?_⟩)
    |true=>
     refine qG (zDm ai t4 t5 t97 A0 rs o1 rp o2 gK jr (zDh (ixC E9) Nat.mul_one l6 P' CY e1 e2)) λK hK=>?_;refine hK _ _ ?_;clear hK K;cases d2 with
     |true=>
      refine qY ?_;refine qW A0 ?_;exact q4 _ _ (k4 _ _ (fin (false) _ _ qp (qd B0) (g3) (M9 rfl)))
     |false=>
      refine qY ?_;refine qW A0 ?_;refine q1 _ _ ?_;refine qW (zDd A0 t97 hwj) ?_;refine⟨lc.length-(j+1),by omega,j+1,rfl,E9,rfl,U6 rfl,?_⟩
      repeat' (first|(simp only[ae,Nat.reduceEqDiff,reduceIte,az,al,t4,t5,t96,t97,A0,B0];first|done|rfl)|refine⟨?_,?_⟩)
   clear hx hy Kx Ky;have Y_:j=lc.length:=by omega
   rw[Y_]at Z1;refine qW A0 ?_;refine k2 _ _ ?_;refine qW A0 ?_;exact fin (true) _ _ qp (qd B0) (g3) (good Z1)
  repeat' (first|(simp only[ae,Nat.reduceEqDiff,reduceIte,az,al,t4,t5,A0,B0];first|done|rfl)|refine⟨?_,?_⟩)
 repeat' (first|(simp only[ae,Nat.reduceEqDiff,reduceIte,az,al,t1,t3,t4,t5,A0,B0];first|done|rfl)|refine⟨?_,?_⟩)
def gO:Nat->List Rl->Int->Int
 |_,[],_=>-1
 |n,x::l,t=>if x.1=t then(n:Int)else gO (n+1) l t
def isT(l:List Rl)(t:Int):Bool:=l.any λx=>x.1==t
def Np:∀(n:Nat)(l:List Rl)(t:Int),isT l t=false->gO n l t=-1
 |_,[],_,_=>rfl
 |n,x::l,t,h=>by
  unfold isT at h;rw[List.any_cons,Bool.or_eq_false_iff]at h;unfold gO;rw[zB1 (ne_of_beq_false h.1)];exact Np (n+1) l t h.2
def EU:∀(n:Nat)(l:List Rl)(t:Int),isT l t=true->(n:Int)≤gO n l t∧gO n l t<(n:Int)+l.length
 |_,[],_,h=>by cases h
 |n,x::l,t,h=>by
  unfold gO;by_cases e:x.1=t
  ·rw[zB0 e,List.length_cons];omega
  rw[zB1 e];have h2:isT l t=true:=by
   unfold isT at h ⊢;rw[List.any_cons,zB5 e,Bool.false_or]at h;exact h
  have:=EU (n+1) l t h2;rw[List.length_cons];omega
def Rf(l:List Rl)(t:Int):decide (0≤gO 0 l t)=isT l t:=by
 cases h:isT l t with
 |true=>exact decide_eq_true (by have:=(EU 0 l t h).1;omega)
 |false=>rw[Np 0 l t h];rfl
def pW(lc:List Cl)(t:Int):∀(l acc:List Int),fS lc t acc l=true->∀m∈l,0≤m∧m<lc.length
 |[],_,_,_,h=>by cases h
 |m::l,acc,h,k,hk=>by
  rw[fS]at h;by_cases c0:m<0
  ·rw[zB0 c0]at h;cases h
  rw[zB1 c0]at h;by_cases c1:(lc.length:Int)≤m
  ·rw[zB0 c1]at h;cases h
  rw[zB1 c1]at h;by_cases c2:xH acc m=true
  ·rw[zB0 c2]at h;cases h
  rw[zB1 c2]at h;by_cases c3:oh lc m≠oh lc t
  ·rw[zB0 c3]at h;cases h
  rw[zB1 c3]at h;rcases List.mem_cons.1 hk with rfl|hk
  ·omega
  exact pW lc t l _ h k hk
def JO:ao Tryz.prog 49=true:=by kernel_rfl
def jl:Option (List Lad)->Pz->Int
 |none,_=>1
 |some ls,p=>if(64:Int)<p.1.length then 3 else if(64:Int)<p.2.length then 3 else if goC (some ls) [] p.1≠0 then goC (some ls) [] p.1 else if goR p.1 [] [] p.2=false then 53 else 0
def Eb(H:Hp)(k a b:AC)(o:Option (List Lad))(p:Pz)(hk:bF H k o)(hL:∀ls,o=some ls->∀x∈ls,x.2.length≤1000000)(ha:dH H a p.1)(hb:dA H b p.2)(hB:PzB p):
  Con E2 49 [.one k,.agg [a,b]] H (λ_=>False) λr _=>r=.one (.i .i64 (jl o p)):=by
 refine Con.of rfl λlg=>?_;have hk:bF ⟨H.t,H.nx,lg⟩ k o:=bF.same (H:=H) rfl rfl hk;have ha:dH ⟨H.t,H.nx,lg⟩ a p.1:=ha;have hb:dA ⟨H.t,H.nx,lg⟩ b p.2:=hb;generalize(⟨H.t,H.nx,lg⟩:Hp)=H at hk ha hb ⊢
 refine C1.body (E:=E2) (nt:=28) (res:=[.tmp 4]) Tryz.func49 rfl rfl rfl rfl rfl λtm z0=>?_;have h0:=z0 0 _ rfl;have h1:=z0 1 _ rfl;clear z0;have fin:∀(e:Int)(A:aa)(H3:Hp),slot A.tm 4=.one (.i .i64 e)->A.dfr=[]->Gr H H3->e=jl o p->∃w H4,aC E2 [.tmp 4] (.ret,A,H3)=.ok [(w,H4)]∧Gr H H4∧∀_:List Nat,w=.one (.i .i64 (jl o p)):=λe A H3 h1 h2 h3 h4=>⟨_,H3,aj (.i .i64 e) (.inr rfl) h2 h1,h3,λ_=>by rw[h4]⟩;generalize G0:jl o p=r0 at fin;obtain⟨lc,lr⟩:=p
 have hP:∀x∈lr,x.2.length≤4611686018427387904:=λx hx=>by have:=hB.p x hx;omega
 simp only at ha hb
 refine qG (zDd ai h0 h1) λK hK=>?_;refine hK _ _ ?_;clear hK K;refine R1.gen (λA1 H1=>Gr H H1∧H.nx<H1.nx∧H1.get H.nx=some (.arr [a,b] 26 0 0)∧slot A1.tm 0=.one (k)∧slot A1.tm 3=.one ((.o (.ptr H.nx 0 0 2)))∧A1.nt=28∧A1.dfr=[])
  ⟨(Fr.refl _).new _,?_⟩ ?_
 ·exact qZ h0
 rintro A1 H1 ⟨g1,m1,r1,t0,t3,A0,B0⟩;clear h0 h1 tm;have hk:=hk.gr g1;have ha:=ha.gr g1;have hb:=hb.gr g1;refine qG (zDe ai t0 A0 Ob) λK hK=>?_;refine WE.con (Jn H1 k o hk hL) λw H2 g2 hw=>?_;subst hw;have r1:=(g2.get _ m1 zB2).trans r1;have m1:=zA0 m1 g2.nx;have hk:=hk.gr g2;have ha:=ha.gr g2;have hb:=hb.gr g2;have g2:=g1.gr g2;clear g1;refine qS (qA ai A0) ?_;refine hK _ _ ?_;clear hK K;cases o with
 |none=>
  repeat refine R1.aF ?_
  (first|refine R1.Ac λKx Ky hx hy=>?_|refine R1.yY λKx Ky hx hy=>?_);simp only[qB,aK,Nat.reduceLT,Nat.reduceEqDiff,Nat.reduceLeDiff,reduceIte,Nat.reduceAdd,Nat.reduceSub,Nat.reduceMul,Int.reduceLT,Int.reduceLE,Int.reduceBEq,Option.isNone]
  refine hx ?_;clear hx hy Kx Ky;refine qW A0 ?_;exact fin (1) _ _ qp (qd B0) (g2) (G0)
 |some ls=>
 repeat refine R1.aF ?_
 (first|refine R1.Ac λKx Ky hx hy=>?_|refine R1.yY λKx Ky hx hy=>?_);simp only[qB,aK,Nat.reduceLT,Nat.reduceEqDiff,Nat.reduceLeDiff,reduceIte,Nat.reduceAdd,Nat.reduceSub,Nat.reduceMul,Int.reduceLT,Int.reduceLE,Int.reduceBEq,Option.isNone]
 refine hy ?_;clear hx hy Kx Ky;refine R1.bA ?_;rw[jl]at G0;simp only at G0
 by_cases c1:(64:Int)<lc.length
 ·rw[zB0 c1]at G0;have c1:=eq_true c1;refine qG (zDl ai t3 A0 r1 m1 cV fD iJ ha.len ha.lt c1) λK hK=>?_;refine hK _ _ ?_;clear hK K;refine qY ?_;refine qW A0 ?_;exact fin (3) _ _ qp (qd B0) (g2) (G0)
 rw[zB1 c1]at G0;by_cases c2:(64:Int)<lr.length
 ·rw[zB0 c2]at G0;have c1:=eq_false c1;have c2:=eq_true c2;refine qG (zDm ai t3 A0 r1 m1 cV gM fD mT iJ lX (zDg ha.len ha.lt hb.len hb.lt c1 c2)) λK hK=>?_;refine hK _ _ ?_;clear hK K;refine qY ?_;refine qW A0 ?_;exact fin (3) _ _ qp (qd B0) (g2) (G0)
 rw[zB1 c2]at G0;have hC:lc.length≤1000000:=by omega
 have hR:lr.length≤1000000:=by omega
 have c1:=eq_false c1;have c2:=eq_false c2;refine qG (zDm ai t3 A0 r1 m1 cV gM fD mT iJ lX (zDg ha.len ha.lt hb.len hb.lt c1 c2)) λK hK=>?_;refine hK _ _ ?_;clear hK K;refine qY ?_;refine R1.bA ?_;refine qG (zDj ai t0 t3 A0 r1 m1 cV fD xv) λK hK=>?_;refine WE.con (wg H2 k a (some ls) lc hk hL ha hC) λw H3 g3 hw=>?_;subst hw;have r1:=(g3.get _ m1 zB2).trans r1;have m1:=zA0 m1 g3.nx;have ha:=ha.gr g3;have hb:=hb.gr g3;have g3:=g2.gr g3;refine qS (qA ai A0) ?_;refine hK _ _ ?_;clear hK K;generalize goC (some ls) [] lc=e0 at G0 ⊢;by_cases W0:e0=0
 case neg=>
  have ce:(e0==0)=false:=zB5 W0;rw[zB0 W0]at G0;refine qW (zDd ai A0 ce) ?_;refine qY ?_;refine qW A0 ?_;exact fin (e0) _ _ qp (qd B0) (g3) (G0)
 rw[zB1 (λh=>h W0)]at G0;have ce:(e0==0)=true:=by rw[W0];rfl
 refine qW (zDd ai A0 ce) ?_;refine qY ?_;refine R1.bA ?_;refine qG (zDh ai t3 A0 r1 m1 rT xB) λK hK=>?_;refine WE.con (uK H3 a b lc lr ha hb hC hR hP) λw H4 g4 hw=>?_;subst hw;have g4:=g3.gr g4;refine qS (qA ai A0) ?_;refine hK _ _ ?_;clear hK K;cases hg:goR lc [] [] lr with
 |false=>
  rw[hg,zB0 rfl]at G0;refine qY ?_;refine qW A0 ?_;exact fin (53) _ _ qp (qd B0) (g4) (G0)
 |true=>
  rw[hg,zB1 (by decide:¬(true=false))]at G0;refine qY ?_;refine qW A0 ?_;exact fin (0) _ _ qp (qd B0) (g4) (G0)
def lV{o:Option (List Lad)}{p:Pz}(h:jl o p=0):∃ls,o=some ls∧p.1.length≤64∧p.2.length≤64∧goC o [] p.1=0∧goR p.1 [] [] p.2=true:=by
 cases o with
 |none=>rw[jl]at h;cases h
 |some ls=>
  rw[jl]at h;refine⟨ls,rfl,?_⟩
  by_cases c1:(64:Int)<p.1.length
  ·rw[zB0 c1]at h;cases h
  rw[zB1 c1]at h;by_cases c2:(64:Int)<p.2.length
  ·rw[zB0 c2]at h;cases h
  rw[zB1 c2]at h;by_cases c3:goC (some ls) [] p.1≠0
  ·rw[zB0 c3]at h;exact absurd h c3
  rw[zB1 c3]at h;refine⟨by omega,by omega,Classical.not_not.1 c3,?_⟩
  cases hg:goR p.1 [] [] p.2 with
  |true=>rfl
  |false=>rw[hg,zB0 rfl]at h;cases h
def uj{o:Option (List Lad)}:∀{l acc:List Cl},goC o acc l=0->∀x∈l,oe o x.2.2.1=0
 |[],_,_,_,h=>by cases h
 |x::l,acc,h,y,hy=>by
  rw[goC]at h;by_cases c0:x.1<0
  ·rw[zB0 c0]at h;cases h
  rw[zB1 c0]at h;by_cases c1:255<x.1
  ·rw[zB0 c1]at h;cases h
  rw[zB1 c1]at h;by_cases c2:MV acc x=true
  ·rw[zB0 c2]at h;cases h
  rw[zB1 c2]at h;by_cases c3:nmB x.2.1=false
  ·rw[zB0 c3]at h;cases h
  rw[zB1 c3]at h;by_cases c4:oe o x.2.2.1≠0
  ·rw[zB0 c4]at h;cases h
  rw[zB1 c4]at h;by_cases c5:nk x.2.2.2≠0
  ·rw[zB0 c5]at h;exact absurd h c5
  rw[zB1 c5]at h;rcases List.mem_cons.1 hy with rfl|hy
  ·exact Classical.not_not.1 c4
  exact uj h y hy
open Go Go.Eng Go.ChangeShapes Go.WideShapes
abbrev XH:=fX (vJ .i64) (fX IE UB)
abbrev HI:=tI Tryz.prog 209 3 XH
abbrev Wl:=fX HI HI
abbrev Kt:=fX (vJ .i64) (fX IE (fX IE Wl))
abbrev CX:=tI Tryz.prog 58 5 Kt
abbrev GP:=tI Tryz.prog 3 1 (vJ .i64)
abbrev MZ:=fX (vJ .i64) GP
abbrev CI:=tI Tryz.prog 82 2 MZ
abbrev qw:=fX CX CI
def Lt:iz XH:=cQ cU (cQ eZ TA)
def vj:iz HI:=nF Lt
def VE:iz Wl:=cQ vj vj
def HL:iz Kt:=cQ cU (cQ eZ (cQ eZ VE))
def sb:iz CX:=nF HL
def Rp:iz GP:=nF cU
def Gi:iz MZ:=cQ cU Rp
def Po:iz CI:=nF Gi
def Wy{W:World}:Opn Tryz.prog W 3 XH 209:=dD Tryz.underlying209 (by kernel_rfl) rfl (ca (iq Tryz.underlying3) cU (ca (qi Tryz.underlying9) eZ (fT (PY Tryz.underlying4))))
def FQ{W:World}(hB:kQ W):Opn Tryz.prog W 1 HI 54:=gm Tryz.underlying54 (by kernel_rfl) (by decide) Lt hB Wy
def WJ{W:World}(hB:kQ W):Opn Tryz.prog W 2 Wl 56:=dD Tryz.underlying56 (by kernel_rfl) rfl (ca (FQ hB) vj (fT (FQ hB)))
def Th{W:World}(hB:kQ W):Opn Tryz.prog W 5 Kt 58:=dD Tryz.underlying58 (by kernel_rfl) rfl (ca (iq Tryz.underlying3) cU (ca (qi Tryz.underlying9) eZ (ca (qi Tryz.underlying9) eZ (fT (WJ hB)))))
def NN{W:World}(hB:kQ W):Opn Tryz.prog W 1 CX 23:=gm Tryz.underlying23 (by kernel_rfl) (by decide) HL hB (Th hB)
def Fk{W:World}(hB:kQ W):Opn Tryz.prog W 1 GP 27:=gm Tryz.underlying27 (by kernel_rfl) (by decide) cU hB (iq Tryz.underlying3)
def Qs{W:World}(hB:kQ W):Opn Tryz.prog W 2 MZ 82:=dD Tryz.underlying82 (by kernel_rfl) rfl (ca (iq Tryz.underlying3) cU (fT (Fk hB)))
def Ox{W:World}(hB:kQ W):Opn Tryz.prog W 1 CI 24:=gm Tryz.underlying24 (by kernel_rfl) (by decide) Gi hB (Qs hB)
def IF{W:World}(hB:kQ W):Opn Tryz.prog W 2 qw 26:=dD Tryz.underlying26 (by kernel_rfl) rfl (ca (NN hB) sb (fT (Ox hB)))
def HF{W:World}:EV Tryz.prog W 2 qw 26:=tw Tryz.underlying26 (by kernel_rfl) rfl (oH (lC Tryz.underlying23) sb (xG (lC Tryz.underlying24)))
def Ef:Tryz.prog.bytesOf 209=32:=by kernel_rfl
def Co:Tryz.prog.bytesOf 58=88:=by kernel_rfl
def Fm:Tryz.prog.bytesOf 3=8:=by kernel_rfl
def BG:Tryz.prog.bytesOf 82=32:=by kernel_rfl
def KX{B:Nat}{H:Hp}{c:List AC}{us:List Gp}(h:HI B H c us):∃u,c=[u]∧gS H u us∧us.length*32≤B:=by
 obtain⟨u,rfl,⟨css,h1,h2⟩,h3⟩:=h
 refine⟨u,rfl,?_,by rwa [Ef]at h3⟩
 have:=ru (f:=gpC) (h2.mono λc x⟨_,c1,c2,e,a,c3,c4,e2,b,d⟩=>by rw[e,a.1,e2,b.1,d];rfl);rw[this]at h1;exact h1
def Mc{B:Nat}{H:Hp}{c:List AC}{us:List Int}(h:GP B H c us):∃u,c=[u]∧SlI H u us∧us.length*8≤B:=by
 obtain⟨u,rfl,⟨css,h1,h2⟩,h3⟩:=h
 refine⟨u,rfl,?_,by rwa [Fm]at h3⟩
 have:=ru (f:=Df) (h2.mono λc x⟨_,e,_⟩=>e);rw[this]at h1;exact h1
def XV{B:Nat}{H:Hp}{c:List AC}{x:Nm}(h:Wl B H c x):∃p q,c=[p,q]∧gS H p x.1∧gS H q x.2∧x.1.length*32≤B∧x.2.length*32≤B:=by
 obtain⟨c1,c2,rfl,h1,h2⟩:=h
 obtain⟨p,rfl,a1,a2⟩:=KX h1
 obtain⟨q,rfl,b1,b2⟩:=KX h2
 exact⟨p,q,rfl,a1,b1,a2,b2⟩
def cell_of{B:Nat}{H:Hp}{c:List AC}{x:Cl}(h:Kt B H c x):ClR H c x∧x.2.2.2.1.length*32≤B∧x.2.2.2.2.length*32≤B:=by
 obtain⟨c1,c2,rfl,a,c3,c4,rfl,b,c5,c6,rfl,d,e⟩:=h
 obtain⟨p,q,rfl,e1,e2,e3,e4⟩:=XV e
 exact⟨⟨p,q,by rw[a.1,b.1,d.1];rfl,e1,e2⟩,e3,e4⟩
def Un{B:Nat}{H:Hp}{c:List AC}{l:List Cl}(h:CX B H c l):∃u,c=[u]∧dH H u l∧l.length*88≤B∧∀x∈l,x.2.2.2.1.length*32≤B∧x.2.2.2.2.length*32≤B:=by
 obtain⟨u,rfl,⟨css,h1,h2⟩,h3⟩:=h
 exact⟨u,rfl,⟨css,h1,h2.mono λc x⟨hl,h⟩=>⟨hl,(cell_of h).1⟩⟩,by rwa [Co]at h3,Al.all (λc x⟨_,h⟩=>(cell_of h).2) h2⟩
def PD{B:Nat}{H:Hp}{c:List AC}{l:List Rl}(h:CI B H c l):∃u,c=[u]∧dA H u l∧l.length*32≤B∧∀x∈l,x.2.length*8≤B:=by
 obtain⟨u,rfl,⟨css,h1,h2⟩,h3⟩:=h
 have key:∀c x,MZ B H c x->RlR H c x∧x.2.length*8≤B:=λc x⟨c1,c2,e,a,b⟩=>by
  obtain⟨u,rfl,b1,b2⟩:=Mc b
  exact⟨⟨u,by rw[e,a.1];rfl,b1⟩,b2⟩
 exact⟨u,rfl,⟨css,h1,h2.mono λc x⟨hl,h⟩=>⟨hl,(key c x h).1⟩⟩,by rwa [BG]at h3,Al.all (λc x⟨_,h⟩=>(key c x h).2) h2⟩
def Zf{B:Nat}{H:Hp}{c:List AC}{p:Pz}(hB:B≤140737488355328)(h:qw B H c p):∃a b,c=[a,b]∧dH H a p.1∧dA H b p.2∧PzB p:=by
 obtain⟨c1,c2,rfl,h1,h2⟩:=h
 obtain⟨a,rfl,a1,a2,a3⟩:=Un h1
 obtain⟨b,rfl,b1,b2,b3⟩:=PD h2
 exact⟨a,b,rfl,a1,b1,⟨zA2 a2 hB,zA2 b2 hB,λx hx=>⟨zA2 (a3 x hx).1 hB,zA2 (a3 x hx).2 hB⟩,λx hx=>zA2 (b3 x hx) hB⟩⟩
def yW:loadT Tryz.prog 229=some (false,1):=by kernel_rfl
def zk:aT Tryz.prog 229=some 1:=by kernel_rfl
def Ag:(ay Tryz.prog 229).map (λz=>(ofValue z).cells)=some [.o .nilS]:=by kernel_rfl
def yR:bt Tryz.prog 229=some (35,1):=by kernel_rfl
def Ah:eR Tryz.prog 229=some 1:=by kernel_rfl
def xK:aR Tryz.prog 229=1:=by kernel_rfl
def MG:loadT Tryz.prog 63=some (true,3):=by kernel_rfl
def Ks:aT Tryz.prog 63=some 3:=by kernel_rfl
def Mm:(ay Tryz.prog 63).map (λz=>(ofValue z).cells)=some [.i .i64 0,.o (.str []),.i .i64 0]:=by kernel_rfl
def La:aR Tryz.prog 63=4:=by kernel_rfl
def yr:aE Tryz.prog 63 0=some (0,3,1):=by kernel_rfl
def ye:aE Tryz.prog 63 1=some (1,9,1):=by kernel_rfl
def Aj:aE Tryz.prog 63 2=some (2,3,1):=by kernel_rfl
def uw:Nat->Option (Nat×Nat):=λi=>(#[(0,1),(1,1),(2,1)]:Array (Nat×Nat))[i]?
def Mf:cB Tryz.prog 63=some uw:=by kernel_rfl
def xS:uw 0=some (0,1):=rfl
def zJ:uw 1=some (1,1):=rfl
def zV:uw 2=some (2,1):=rfl
def FC:loadT Tryz.prog 30=some (false,1):=by kernel_rfl
def FB:aT Tryz.prog 30=some 1:=by kernel_rfl
def Hx:cK Tryz.prog 30=some 24:=by kernel_rfl
def wU:(ay Tryz.prog 30).map (λz=>(ofValue z).cells)=some [.o .nilS]:=by kernel_rfl
def RI:∃z,ay Tryz.prog 30=some z∧(ofValue z).cells.length=1:=by
 have h:=wU;cases hz:ay Tryz.prog 30 with
 |none=>rw[hz]at h;cases h
 |some z=>
  rw[hz]at h;exact⟨z,rfl,by have:(ofValue z).cells=_:=Option.some.inj h;rw[this];rfl⟩
def mK:bt Tryz.prog 30=some (80,4):=by kernel_rfl
def HQ:eR Tryz.prog 30=some 1:=by kernel_rfl
def Hy:aR Tryz.prog 30=1:=by kernel_rfl
def Si:loadT Tryz.prog 80=some (true,4):=by kernel_rfl
def RR:aT Tryz.prog 80=some 4:=by kernel_rfl
def Ju:cK Tryz.prog 80=some 32:=by kernel_rfl
def JQ:(ay Tryz.prog 80).map (λz=>(ofValue z).cells)=some [.i .i64 0,.i .i64 0,.i .i64 0,.i .i64 0]:=by kernel_rfl
def Ii:∃z,ay Tryz.prog 80=some z∧(ofValue z).cells.length=4:=by
 have h:=JQ;cases hz:ay Tryz.prog 80 with
 |none=>rw[hz]at h;cases h
 |some z=>
  rw[hz]at h;exact⟨z,rfl,by have:(ofValue z).cells=_:=Option.some.inj h;rw[this];rfl⟩
def Qy:aR Tryz.prog 80=4:=by kernel_rfl
def GR:aE Tryz.prog 80 0=some (0,3,1):=by kernel_rfl
def Gl:aE Tryz.prog 80 1=some (1,3,1):=by kernel_rfl
def Fp:aE Tryz.prog 80 2=some (2,3,1):=by kernel_rfl
def HG:aE Tryz.prog 80 3=some (3,3,1):=by kernel_rfl
def vG:Nat->Option (Nat×Nat):=λi=>(#[(0,1),(1,1),(2,1),(3,1)]:Array (Nat×Nat))[i]?
def Sa:cB Tryz.prog 80=some vG:=by kernel_rfl
def EB:vG 0=some (0,1):=rfl
def Dr:vG 1=some (1,1):=rfl
def HR:vG 2=some (2,1):=rfl
def GI:vG 3=some (3,1):=rfl
def Lg:loadT Tryz.prog 29=some (true,4):=by kernel_rfl
def Kf:aT Tryz.prog 29=some 4:=by kernel_rfl
def Ls:(ay Tryz.prog 29).map (λz=>(ofValue z).cells)=some [.o .nilS,.o .nilS,.o .nilS,.o .nilS]:=by kernel_rfl
def MT:aR Tryz.prog 29=4:=by kernel_rfl
def Bm:aE Tryz.prog 29 0=some (0,22,1):=by kernel_rfl
def zD:aE Tryz.prog 29 1=some (1,26,2):=by kernel_rfl
def yI:aE Tryz.prog 29 2=some (3,27,1):=by kernel_rfl
def uh:Nat->Option (Nat×Nat):=λi=>(#[(0,1),(1,2),(3,1)]:Array (Nat×Nat))[i]?
def LF:cB Tryz.prog 29=some uh:=by kernel_rfl
def xN:uh 0=some (0,1):=rfl
def Ba:uh 1=some (1,2):=rfl
def Ai:uh 2=some (3,1):=rfl
def UP:loadT Tryz.prog 153=some (false,1):=by kernel_rfl
def RD:aT Tryz.prog 153=some 1:=by kernel_rfl
def Rx:(ay Tryz.prog 153).map (λz=>(ofValue z).cells)=some [.o .oJ]:=by kernel_rfl
def SZ:aR Tryz.prog 153=3:=by kernel_rfl
def Mh:loadT Tryz.prog 29=some (true,4):=by kernel_rfl
def Md:aT Tryz.prog 29=some 4:=by kernel_rfl
def Kb:(ay Tryz.prog 29).map (λz=>(ofValue z).cells)=some [.o .nilS,.o .nilS,.o .nilS,.o .nilS]:=by kernel_rfl
def Mi:aR Tryz.prog 29=4:=by kernel_rfl
def yx:aE Tryz.prog 29 0=some (0,22,1):=by kernel_rfl
def zB:aE Tryz.prog 29 1=some (1,26,2):=by kernel_rfl
def yy:aE Tryz.prog 29 2=some (3,27,1):=by kernel_rfl
def RX:loadT Tryz.prog 160=some (false,1):=by kernel_rfl
def Qo:aT Tryz.prog 160=some 1:=by kernel_rfl
def RY:(ay Tryz.prog 160).map (λz=>(ofValue z).cells)=some [.i .u64 0]:=by kernel_rfl
def BK:Tryz.prog.underlying 160=some (.int .u64):=by kernel_rfl
def SS:aR Tryz.prog 160=4:=by kernel_rfl
def UD:loadT Tryz.prog 172=some (false,1):=by kernel_rfl
def Ut:aT Tryz.prog 172=some 1:=by kernel_rfl
def PV:(ay Tryz.prog 172).map (λz=>(ofValue z).cells)=some [.i .u64 0]:=by kernel_rfl
def sa:Tryz.prog.underlying 172=some (.int .u64):=by kernel_rfl
def Tp:aR Tryz.prog 172=4:=by kernel_rfl
def LV:loadT Tryz.prog 256=some (false,1):=by kernel_rfl
def Ka:aT Tryz.prog 256=some 1:=by kernel_rfl
def Ke:(ay Tryz.prog 256).map (λz=>(ofValue z).cells)=some [.i .u64 0]:=by kernel_rfl
def Mj:aR Tryz.prog 256=4:=by kernel_rfl
def Xz:loadT Tryz.prog 5=some (false,1):=by kernel_rfl
def lK:Tryz.prog.underlying 5=some (.int .u8):=by kernel_rfl
def Xw:aR Tryz.prog 5=4:=by kernel_rfl
def MS:loadT Tryz.prog 284=some (true,2):=by kernel_rfl
def LG:aT Tryz.prog 284=some 2:=by kernel_rfl
def Kj:(ay Tryz.prog 284).map (λz=>(ofValue z).cells)=some [.o (.str []),.i .i64 0]:=by kernel_rfl
def KZ:aR Tryz.prog 284=4:=by kernel_rfl
def yH:aE Tryz.prog 284 0=some (0,9,1):=by kernel_rfl
def yF:aE Tryz.prog 284 1=some (1,3,1):=by kernel_rfl
def Cc:Nat->Option (Nat×Nat):=λi=>(#[(0,1),(1,1)]:Array (Nat×Nat))[i]?
def MI:cB Tryz.prog 284=some Cc:=by kernel_rfl
def zh:Cc 0=some (0,1):=rfl
def zq:Cc 1=some (1,1):=rfl
def Fv:loadT Tryz.prog 139=some (false,1):=by kernel_rfl
def EI:aT Tryz.prog 139=some 1:=by kernel_rfl
def FX:(ay Tryz.prog 139).map (λz=>(ofValue z).cells)=some [.o .nilS]:=by kernel_rfl
def Ez:bt Tryz.prog 139=some (284,2):=by kernel_rfl
def GZ:eR Tryz.prog 139=some 1:=by kernel_rfl
def EM:aR Tryz.prog 139=1:=by kernel_rfl
def Kc:loadT Tryz.prog 141=some (true,8):=by kernel_rfl
def LY:aT Tryz.prog 141=some 8:=by kernel_rfl
def Nu:(ay Tryz.prog 141).map (λz=>(ofValue z).cells)=some [.i .i64 0,.i .i64 0,.i .i64 0,.i .i64 0,.o .nilS,.o .nilS,.o (.str []),.o .nilS]:=by kernel_rfl
def Kh:aR Tryz.prog 141=4:=by kernel_rfl
def Ar:aE Tryz.prog 141 0=some (0,3,1):=by kernel_rfl
def AQ:aE Tryz.prog 141 1=some (1,3,1):=by kernel_rfl
def Bf:aE Tryz.prog 141 2=some (2,3,1):=by kernel_rfl
def zo:aE Tryz.prog 141 3=some (3,3,1):=by kernel_rfl
def xL:aE Tryz.prog 141 4=some (4,56,2):=by kernel_rfl
def yO:aE Tryz.prog 141 5=some (6,9,1):=by kernel_rfl
def AW:aE Tryz.prog 141 6=some (7,139,1):=by kernel_rfl
def jk:Nat->Option (Nat×Nat):=λi=>(#[(0,1),(1,1),(2,1),(3,1),(4,2),(6,1),(7,1)]:Array (Nat×Nat))[i]?
def KV:cB Tryz.prog 141=some jk:=by kernel_rfl
def xM:jk 0=some (0,1):=rfl
def Aa:jk 1=some (1,1):=rfl
def AX:jk 2=some (2,1):=rfl
def Af:jk 3=some (3,1):=rfl
def Bn:jk 4=some (4,2):=rfl
def Bd:jk 5=some (6,1):=rfl
def yD:jk 6=some (7,1):=rfl
def Gn:loadT Tryz.prog 89=some (false,1):=by kernel_rfl
def DF:aT Tryz.prog 89=some 1:=by kernel_rfl
def by_cases:cK Tryz.prog 89=some 24:=by kernel_rfl
def Hq:(ay Tryz.prog 89).map (λz=>(ofValue z).cells)=some [.o .nilS]:=by kernel_rfl
def Fq:bt Tryz.prog 89=some (141,8):=by kernel_rfl
def Ey:eR Tryz.prog 89=some 1:=by kernel_rfl
def FO:aR Tryz.prog 89=1:=by kernel_rfl
def PF:loadT Tryz.prog 91=some (true,2):=by kernel_rfl
def RP:aT Tryz.prog 91=some 2:=by kernel_rfl
def SB:(ay Tryz.prog 91).map (λz=>(ofValue z).cells)=some [.o (.str []),.o .nilS]:=by kernel_rfl
def UC:aR Tryz.prog 91=4:=by kernel_rfl
def EW:aE Tryz.prog 91 0=some (0,9,1):=by kernel_rfl
def FZ:aE Tryz.prog 91 1=some (1,89,1):=by kernel_rfl
def Jt:Nat->Option (Nat×Nat):=λi=>(#[(0,1),(1,1)]:Array (Nat×Nat))[i]?
def Se:cB Tryz.prog 91=some Jt:=by kernel_rfl
def EA:Jt 0=some (0,1):=rfl
def Ec:Jt 1=some (1,1):=rfl
def Tj:loadT Tryz.prog 98=some (true,2):=by kernel_rfl
def PK:aT Tryz.prog 98=some 2:=by kernel_rfl
def TN:(ay Tryz.prog 98).map (λz=>(ofValue z).cells)=some [.o (.str []),.i .i64 0]:=by kernel_rfl
def Sv:aR Tryz.prog 98=4:=by kernel_rfl
def Eh:aE Tryz.prog 98 0=some (0,9,1):=by kernel_rfl
def Du:aE Tryz.prog 98 1=some (1,3,1):=by kernel_rfl
def Is:Nat->Option (Nat×Nat):=λi=>(#[(0,1),(1,1)]:Array (Nat×Nat))[i]?
def TS:cB Tryz.prog 98=some Is:=by kernel_rfl
def GK:Is 0=some (0,1):=rfl
def EF:Is 1=some (1,1):=rfl
def KG:loadT Tryz.prog 94=some (false,1):=by kernel_rfl
def Lj:aT Tryz.prog 94=some 1:=by kernel_rfl
def Ng:(ay Tryz.prog 94).map (λz=>(ofValue z).cells)=some [.o .nilS]:=by kernel_rfl
def Nq:bt Tryz.prog 94=some (98,2):=by kernel_rfl
def Lq:eR Tryz.prog 94=some 1:=by kernel_rfl
def Le:aR Tryz.prog 94=1:=by kernel_rfl
def Ds:loadT Tryz.prog 206=some (true,2):=by kernel_rfl
def Ho:aT Tryz.prog 206=some 2:=by kernel_rfl
def EZ:(ay Tryz.prog 206).map (λz=>(ofValue z).cells)=some [.o (.str []),.i .i64 0]:=by kernel_rfl
def Fz:aR Tryz.prog 206=4:=by kernel_rfl
def uM:aE Tryz.prog 206 0=some (0,9,1):=by kernel_rfl
def va:aE Tryz.prog 206 1=some (1,3,1):=by kernel_rfl
def ux:Nat->Option (Nat×Nat):=λi=>(#[(0,1),(1,1)]:Array (Nat×Nat))[i]?
def FI:cB Tryz.prog 206=some ux:=by kernel_rfl
def vk:ux 0=some (0,1):=rfl
def xd:ux 1=some (1,1):=rfl
def TO:loadT Tryz.prog 202=some (false,1):=by kernel_rfl
def Ss:aT Tryz.prog 202=some 1:=by kernel_rfl
def Uw:(ay Tryz.prog 202).map (λz=>(ofValue z).cells)=some [.o .nilM]:=by kernel_rfl
def QH:eR Tryz.prog 202=some 2:=by kernel_rfl
def Re:fW Tryz.prog 202=some (206,3):=by kernel_rfl
def UM:bf Tryz.prog 206=2:=by kernel_rfl
def QR:aR Tryz.prog 202=2:=by kernel_rfl
def KU:loadT Tryz.prog 114=some (false,1):=by kernel_rfl
def Kr:aT Tryz.prog 114=some 1:=by kernel_rfl
def No:(ay Tryz.prog 114).map (λz=>(ofValue z).cells)=some [.o .nilS]:=by kernel_rfl
def Na:bt Tryz.prog 114=some (172,1):=by kernel_rfl
def Lk:eR Tryz.prog 114=some 1:=by kernel_rfl
def Nt:aR Tryz.prog 114=1:=by kernel_rfl
def tyF:=zDm ai bC Rn Tu sf TY bE vp rO RN jr (zDm tL Ku Mu qz dJ rD DW qR nX kN MF (zDm bJ bU LK Aq AP bZ EO GL gT dq Ie (zDm eP jC fh TQ eS bY sE qK qf kW tS (zDm LL ez ig Mr rP IQ IP Bt uU Ci RE (zDm oP PO Sq Qa wa Cj Cz Hv GS DO lU (zDm Ml KI CP ME jZ gh sG rW Bz Bo sx (zDm AM yj nC CV LQ er Da MK we xi Hz (zDm pN Gm DM Lm Lr ua MO xW yo BL An (zDm zM Nb LR MW KN Nr Lx KW Ld KE Mq (zDm xJ As AJ JV Bl yL yB GB FA FP Ed (zDm Dz Ej HU EK uP FT gq vm wO wb vS (zDm ya yJ yZ xD rT zd zE zx cV gM xO (zDm tj sW fD HN DA iN iJ FN BW BS Cn (zDm Nn gz nz jL sI LU Be zn zv yk mT (zDm Hl GX wT lX Fj BY Dl CA LI fw jN (zDm LH zw AH Jl UO TZ QL eW iD PE Gu (zDm Gj fL MB KL kM ew Nk iF uW sv QX (zDm nq mD nu IZ HH Gh GD ER DQ Ig gK (zDm xj He yW zk Ag yR Ah xK MG Ks Mm (zDm La yr ye Aj Mf xS zJ zV FC FB wU (zDm mK HQ Hy Si RR JQ Qy GR Gl Fp HG (zDm Sa EB Dr HR GI Lg Kf Ls MT Bm zD (zDm yI LF xN Ba Ai UP RD Rx SZ MS LG (zDm Kj KZ yH yF MI zh zq Fv EI FX Ez (zDm GZ EM Kc LY Nu Kh Ar AQ Bf zo xL (zDm yO AW KV xM Aa AX Af Bn Bd yD Gn (zDm DF Hq Fq Ey FO PF RP SB UC EW FZ (zDm Se EA Ec Tj PK TN Sv Eh Du TS GK (zDm EF KG Lj Ng Nq Lq Le Ds Ho EZ Fz (zDm uM va FI vk xd TO Ss Uw QH Re UM (zDh QR KU Kr No Na Lk Nt)))))))))))))))))))))))))))))))
def pK:ao Tryz.prog 27=true:=by kernel_rfl
def aY(v:List Int):Int->List Int->Int
 |n,[]=>n
 |n,i::l=>aY v (IntKind.i64.wrap (n+v.getD i.toNat 0)) l
def nT(H:Hp)(u w:AC)(t:Int)(ps v:List Int)(hu:SlI H u ps)(hw:SlI H w v)(hi:∀i∈ps,0≤i∧i<v.length)(hL:ps.length≤4611686018427387904):
  Con E2 27 [.agg [.i .i64 t,u],.one w] H (λ_=>False) λr _=>r=.one (.i .i64 (aY v 0 ps)):=by
 refine Con.of rfl λlg=>?_;have hu:SlI ⟨H.t,H.nx,lg⟩ u ps:=hu;have hw:SlI ⟨H.t,H.nx,lg⟩ w v:=hw;generalize(⟨H.t,H.nx,lg⟩:Hp)=H at hu hw ⊢
 refine C1.body (E:=E2) (nt:=23) (res:=[.tmp 4]) Tryz.func27 rfl rfl rfl rfl rfl λtm z0=>?_;have h0:=z0 0 _ rfl;have h1:=z0 1 _ rfl;clear z0;have fin:∀(e:Int)(A:aa)(H3:Hp),slot A.tm 4=.one (.i .i64 e)->A.dfr=[]->Gr H H3->e=aY v 0 ps->∃w H4,aC E2 [.tmp 4] (.ret,A,H3)=.ok [(w,H4)]∧Gr H H4∧∀_:List Nat,w=.one (.i .i64 (aY v 0 ps)):=λe A H3 h1 h2 h3 h4=>⟨_,H3,aj (.i .i64 e) (.inr rfl) h2 h1,h3,λ_=>by rw[h4]⟩;generalize G0:aY v 0 ps=r0 at fin;refine zG tyF λK hK=>?_;refine hK.out _ _ ?_;refine R1.gen (λA1 H1=>Gr H H1∧H.nx<H1.nx∧H1.get H.nx=some (.arr [.i .i64 t,u] 82 0 0)∧slot A1.tm 1=.one (w)∧slot A1.tm 2=.one ((.o (.ptr H.nx 0 0 2)))∧A1.nt=23∧A1.dfr=[]) ⟨(Fr.refl _).new _,zA6 _,aB rfl,zL⟩ ?_;rintro A1 H1 ⟨g1,m1,rx,t1,t2,A0,B0⟩;clear h0 h1 tm hK K;have hu:=hu.gr g1;have hw:=hw.gr g1;have l1:=hu.len;have l2:=hu.lt;refine zW tyF ?_;refine R1.fb λK k1 k2 k3 k4=>?_;refine R1.loop (λm A H2=>∃(i:Nat)(n:Int),m=ps.length-i∧i≤ps.length∧H2=H1∧aY v n (ps.drop i)=r0∧slot A.tm 1=.one (w)∧slot A.tm 5=.one (.i .i64 (n:Int))∧slot A.tm 9=.one (u)∧slot A.tm 10=.one (.i .i64 (ps.length:Int))∧slot A.tm 11=.one (.i .i64 (i:Int))∧A.nt=23∧A.dfr=[]) ?_ ps.length ⟨0,0,rfl,Nat.zero_le _,rfl,G0,zL⟩;clear t1 t2 A0 B0 A1;rintro m A H2 ⟨i,n,rfl,C4,rfl,hr,t1,t5,t9,t10,t11,A0,B0⟩;refine zW tyF ?_;refine zI tyF (λhc=>?_) (λhc=>?_)
 ·have C0:i<ps.length:=by omega
  have ex:ps[i]?=some ps[i]:=zB4 C0;have N0:ps.drop i=ps[i]::ps.drop (i+1):=List.drop_eq_getElem_cons C0;have I2:ps.take (i+1)=ps.take i++[ps[i]]:=List.take_succ_eq_append_getElem C0;have E0:ps[i]∈ps:=List.getElem_mem C0;generalize ps[i]=x at ex N0 I2 E0;have B3:=zC0 i (by omega);obtain⟨X2,U7⟩:=hi x E0
  obtain⟨id,g,off,cells,rfl,hid,B1,K0⟩:=hu.open (by omega)
  obtain⟨id',g',off',cells',rfl,G6,hgr',S8⟩:=hw.open (by omega)
  obtain⟨e1,e2⟩:=K0 i x ex
  have ev:v[x.toNat]?=some (v.getD x.toNat 0):=by rw[List.getD_eq_getElem?_getD,zB4 (by omega)];rfl
  obtain⟨e3,e4⟩:=S8 _ _ ev
  rw[N0,aY]at hr;clear K0 S8;refine zW tyF ?_;refine R1.fb λK2 q1 q2 q3 q4=>?_;refine zW (zDd tyF (ixC C0) (ixI X2 U7)) ?_;refine q1.out _ _ ?_;refine zW tyF ?_;exact⟨ps.length-(i+1),by omega,i+1,_,rfl,C0,rfl,hr,zL⟩
 have S1:i=ps.length:=by omega
 refine zW tyF ?_;refine k2.out _ _ ?_;refine zW tyF ?_;rw[S1,List.drop_length,aY]at hr;exact fin (n) _ _ qp qe (g1) (hr)
def HT:ao Tryz.prog 99=true:=by kernel_rfl
def Fo:ao Tryz.prog 50=true:=by kernel_rfl
def PW:ao Tryz.prog 98=true:=by kernel_rfl
def UW:ao Tryz.prog 142=true:=by kernel_rfl
def iO:ao Tryz.prog 23=true:=by kernel_rfl
def jf(n:Int):Bool:=decide (n<1)||decide (1099511627776<n)
def wv:Nat->List Int->Int
 |_,[]=>-1
 |n,x::l=>if jf x=true then(n:Int)else wv (n+1) l
def Gf:∀(l:List Int)(n:Nat),decide (0≤wv n l)=l.any jf
 |[],_=>rfl
 |x::l,n=>by
  rw[wv,List.any_cons];cases h:jf x with
  |true=>rw[zB0 rfl,Bool.true_or];exact decide_eq_true (by omega)
  |false=>rw[zB1 zA8,Bool.false_or];exact Gf l (n+1)
def Ei(H:Hp)(n:Int):Con E2 99 [.one (.i .i64 n)] H (λ_=>False) λr _=>r=.one (.b (jf n)):=by
 refine Con.of rfl λlg=>?_;generalize(⟨H.t,H.nx,lg⟩:Hp)=H at⊢
 refine C1.body (E:=E2) (nt:=9) (res:=[.tmp 2]) Tryz.func99 rfl rfl rfl rfl rfl λtm z0=>?_;have h0:=z0 0 _ rfl;clear z0;have fin:∀(e:Bool)(A:aa)(H3:Hp),slot A.tm 2=.one (.b e)->A.dfr=[]->Gr H H3->e=jf n->∃w H4,aC E2 [.tmp 2] (.ret,A,H3)=.ok [(w,H4)]∧Gr H H4∧∀_:List Nat,w=.one (.b (jf n)):=λe A H3 h1 h2 h3 h4=>⟨_,H3,aj (.b e) (.inr rfl) h2 h1,h3,λ_=>by rw[h4]⟩;generalize G0:jf n=r0 at fin;unfold jf at G0;by_cases c0:n<1
 ·refine zW tyF ?_;exact fin (true) _ _ qp qe (Fr.refl _) ((by rw[decide_eq_true c0,Bool.true_or]at G0;exact G0))
 refine zW tyF ?_;exact fin ((decide (1099511627776<n))) _ _ qp qe (Fr.refl _) ((by rw[decide_eq_false c0,Bool.false_or]at G0;exact G0))
def Uh(H:Hp)(v:AC)(l:List Int)(hv:SlI H v l)(hL:l.length≤4611686018427387904):
  Con E2 142 [.one v,.one (.o (.clo 99 []))] H (λ_=>False) λr _=>r=.one (.i .i64 (wv 0 l)):=by
 refine Con.of rfl λlg=>?_;have hv:SlI ⟨H.t,H.nx,lg⟩ v l:=hv;generalize(⟨H.t,H.nx,lg⟩:Hp)=H at hv ⊢
 refine C1.body (E:=E2) (nt:=19) (res:=[.tmp 4]) Tryz.func142 rfl rfl rfl rfl rfl λtm z0=>?_;have h0:=z0 0 _ rfl;have h1:=z0 1 _ rfl;clear z0;have fin:∀(e:Int)(A:aa)(H3:Hp),slot A.tm 4=.one (.i .i64 e)->A.dfr=[]->Gr H H3->e=wv 0 l->∃w H4,aC E2 [.tmp 4] (.ret,A,H3)=.ok [(w,H4)]∧Gr H H4∧∀_:List Nat,w=.one (.i .i64 (wv 0 l)):=λe A H3 h1 h2 h3 h4=>⟨_,H3,aj (.i .i64 e) (.inr rfl) h2 h1,h3,λ_=>by rw[h4]⟩;generalize G0:wv 0 l=r0 at fin;have l1:=hv.len;have l2:=hv.lt;refine zW tyF ?_;refine R1.fb λK k1 k2 k3 k4=>?_;refine R1.loop (λm A H2=>∃i:Nat,m=l.length-i∧i≤l.length∧Gr H H2∧wv i (l.drop i)=r0∧slot A.tm 0=.one (v)∧slot A.tm 1=.one ((.o (.clo 99 [])))∧slot A.tm 7=.one (.i .i64 (l.length:Int))∧slot A.tm 8=.one (.i .i64 (i:Int))∧A.nt=19∧A.dfr=[]) ?_ l.length ⟨0,rfl,Nat.zero_le _,Fr.refl _,G0,zL⟩;clear h0 h1 tm l1 l2;rintro m A H2 ⟨i,rfl,C4,g2,hr,t0,t1,t7,t8,A0,B0⟩;refine zW tyF ?_;refine zI tyF (λhc=>?_) (λhc=>?_)
 ·have C0:i<l.length:=by omega
  have ex:=zB4 C0;have N0:=zC1 C0;have I2:=zC2 C0;have E0:l[i]∈l:=List.getElem_mem C0;generalize l[i]=x at ex N0 I2 E0;have B3:=zC0 i (by omega);obtain⟨id,g,off,cells,rfl,hid,B1,K0⟩:=(hv.gr g2).open (by omega)
  obtain⟨e1,e2⟩:=K0 i x ex
  rw[N0,wv]at hr;clear K0;refine zW tyF ?_;refine R1.fb λK2 q1 q2 q3 q4=>?_;refine zW tyF ?_;refine zG (zDd tyF (ixC C0) HT) λK3 P6=>?_;refine WE.con (Ei H2 x) λw H4 g4 hw=>?_;subst hw;have g4:=g2.gr g4;cases hb:jf x with
  |true=>
   refine zK tyF ?_;exact q4.out _ _ (k4.out _ _ (fin ((i:Int)) _ _ qp qe (g4) ((by rw[zB0 hb]at hr;exact hr))))
  |false=>
   refine zK tyF ?_;rw[zB1 (by rw[hb];exact zA8)]at hr;refine q1.out _ _ ?_;refine zW tyF ?_;exact⟨l.length-(i+1),by omega,i+1,rfl,C0,g4,hr,zL⟩
 have S1:i=l.length:=by omega
 refine zW tyF ?_;refine k2.out _ _ ?_;refine zW tyF ?_;rw[S1,List.drop_length,wv]at hr;exact fin (-1) _ _ qp qe (g2) (hr)
def NH(H:Hp)(v:AC)(l:List Int)(hv:SlI H v l)(hL:l.length≤4611686018427387904):
  Con E2 98 [.one v,.one (.o (.clo 99 []))] H (λ_=>False) λr _=>r=.one (.b (l.any jf)):=by
 refine Con.of rfl λlg=>?_;have hv:SlI ⟨H.t,H.nx,lg⟩ v l:=hv;generalize(⟨H.t,H.nx,lg⟩:Hp)=H at hv ⊢
 refine C1.body (E:=E2) (nt:=9) (res:=[.tmp 4]) Tryz.func98 rfl rfl rfl rfl rfl λtm z0=>?_;have h0:=z0 0 _ rfl;have h1:=z0 1 _ rfl;clear z0;have fin:∀(e:Bool)(A:aa)(H3:Hp),slot A.tm 4=.one (.b e)->A.dfr=[]->Gr H H3->e=l.any jf->∃w H4,aC E2 [.tmp 4] (.ret,A,H3)=.ok [(w,H4)]∧Gr H H4∧∀_:List Nat,w=.one (.b (l.any jf)):=λe A H3 h1 h2 h3 h4=>⟨_,H3,aj (.b e) (.inr rfl) h2 h1,h3,λ_=>by rw[h4]⟩;generalize G0:l.any jf=r0 at fin;refine zW tyF ?_;refine zG (qA tyF UW) λK hK=>?_;refine WE.con (Uh H v l hv hL) λw H4 g4 hw=>?_;subst hw;refine zK tyF ?_;exact fin ((decide (0≤wv 0 l))) _ _ qp qe (g4) ((Gf l 0).trans G0)
def sy(lc:List Cl)(v:List Int):Bool:=((v.length:Int)==(lc.length:Int))&&!(v.any jf)
def xu(H:Hp)(a b w:AC)(lc:List Cl)(v:List Int)(ha:dH H a lc)(hw:SlI H w v)(hL:v.length≤4611686018427387904):
  Con E2 50 [.agg [a,b],.one w] H (λ_=>False) λr _=>r=.one (.b (sy lc v)):=by
 refine Con.of rfl λlg=>?_;have ha:dH ⟨H.t,H.nx,lg⟩ a lc:=ha;have hw:SlI ⟨H.t,H.nx,lg⟩ w v:=hw;generalize(⟨H.t,H.nx,lg⟩:Hp)=H at ha hw ⊢
 refine C1.body (E:=E2) (nt:=16) (res:=[.tmp 4]) Tryz.func50 rfl rfl rfl rfl rfl λtm z0=>?_;have h0:=z0 0 _ rfl;have h1:=z0 1 _ rfl;clear z0;have fin:∀(e:Bool)(A:aa)(H3:Hp),slot A.tm 4=.one (.b e)->A.dfr=[]->Gr H H3->e=sy lc v->∃w H4,aC E2 [.tmp 4] (.ret,A,H3)=.ok [(w,H4)]∧Gr H H4∧∀_:List Nat,w=.one (.b (sy lc v)):=λe A H3 h1 h2 h3 h4=>⟨_,H3,aj (.b e) (.inr rfl) h2 h1,h3,λ_=>by rw[h4]⟩;generalize G0:sy lc v=r0 at fin;unfold sy at G0;refine zG tyF λK hK=>?_;refine hK.out _ _ ?_;refine R1.gen (λA1 H1=>Gr H H1∧H.nx<H1.nx∧H1.get H.nx=some (.arr [a,b] 26 0 0)∧slot A1.tm 1=.one (w)∧slot A1.tm 2=.one ((.o (.ptr H.nx 0 0 2)))∧A1.nt=16∧A1.dfr=[]) ⟨(Fr.refl _).new _,zA6 _,aB rfl,zL⟩ ?_;rintro A1 H1 ⟨g1,m1,rx,t1,t2,A0,B0⟩;clear h0 h1 tm hK K;have ha:=ha.gr g1;have hw:=hw.gr g1;have l1:=ha.len;have l2:=ha.lt;have l3:=hw.len;have l4:=hw.lt;cases hc:((v.length:Int)==(lc.length:Int))with
 |false=>
  refine zW tyF ?_;exact fin (false) _ _ qp qe (g1) ((by rw[hc,Bool.false_and]at G0;exact G0))
 |true=>
  refine zG (qA tyF PW) λK hK=>?_;refine WE.con (NH H1 w v hw hL) λw H4 g4 hw=>?_;subst hw;refine zK tyF ?_;exact fin ((!(v.any jf))) _ _ qp qe (g1.gr g4) ((by rw[hc,Bool.true_and]at G0;exact G0))
def ep(o:Option (List Lad))(p:Pz)(v:List Int):Int:=if jl o p≠0 then jl o p else if sy p.1 v=false then 54 else 0
def gU(H:Hp)(k a b w:AC)(o:Option (List Lad))(p:Pz)(v:List Int)(hk:bF H k o)(hL:∀ls,o=some ls->∀x∈ls,x.2.length≤1000000)(ha:dH H a p.1)(hb:dA H b p.2)(hB:PzB p)(hw:SlI H w v)(hV:v.length≤4611686018427387904):
  Con E2 23 [.one k,.agg [a,b],.one w] H (λ_=>False) λr _=>r=.one (.i .i64 (ep o p v)):=by
 refine Con.of rfl λlg=>?_;have hk:bF ⟨H.t,H.nx,lg⟩ k o:=bF.same (H:=H) rfl rfl hk;have ha:dH ⟨H.t,H.nx,lg⟩ a p.1:=ha;have hb:dA ⟨H.t,H.nx,lg⟩ b p.2:=hb;have hw:SlI ⟨H.t,H.nx,lg⟩ w v:=hw;generalize(⟨H.t,H.nx,lg⟩:Hp)=H at hk ha hb hw ⊢
 refine C1.body (E:=E2) (nt:=18) (res:=[.tmp 6]) Tryz.func23 rfl rfl rfl rfl rfl λtm z0=>?_;have h0:=z0 0 _ rfl;have h1:=z0 1 _ rfl;have h2:=z0 2 _ rfl;clear z0;have fin:∀(e:Int)(A:aa)(H3:Hp),slot A.tm 6=.one (.i .i64 e)->A.dfr=[]->Gr H H3->e=ep o p v->∃w H4,aC E2 [.tmp 6] (.ret,A,H3)=.ok [(w,H4)]∧Gr H H4∧∀_:List Nat,w=.one (.i .i64 (ep o p v)):=λe A H3 h1 h2 h3 h4=>⟨_,H3,aj (.i .i64 e) (.inr rfl) h2 h1,h3,λ_=>by rw[h4]⟩;generalize G0:ep o p v=r0 at fin;unfold ep at G0;refine zG tyF λK hK=>?_;refine hK.out _ _ ?_;refine R1.gen (λA1 H1=>Gr H H1∧H.nx<H1.nx∧H1.get H.nx=some (.arr [a,b] 26 0 0)∧slot A1.tm 0=.one (k)∧slot A1.tm 2=.one (w)∧slot A1.tm 4=.one ((.o (.ptr H.nx 0 0 2)))∧A1.nt=18∧A1.dfr=[]) ⟨(Fr.refl _).new _,zA6 _,aB rfl,zL⟩ ?_;rintro A1 H1 ⟨g1,m1,rx,t0,t2,t4,A0,B0⟩;clear h0 h1 h2 tm hK K;have hk:=hk.gr g1;have ha:=ha.gr g1;have hb:=hb.gr g1;have hw:=hw.gr g1;refine zG (qA tyF JO) λK hK=>?_;refine WE.con (Eb H1 k a b o p hk hL ha hb hB) λw' H2 g2 hq=>?_;subst hq;have rx:=(g2.get _ m1 zB2).trans rx;have m1:=zA0 m1 g2.nx;have ha:=ha.gr g2;have hw:=hw.gr g2;have g2:=g1.gr g2;clear g1;generalize jl o p=e0 at G0;by_cases W0:e0=0
 case neg=>
  have ce:(e0==0)=false:=zB5 W0;refine zK tyF ?_;exact fin (e0) _ _ qp qe (g2) ((by rw[zB0 W0]at G0;exact G0))
 rw[zB1 (λh=>h W0)]at G0;have ce:(e0==0)=true:=by rw[W0];rfl
 refine zK tyF ?_;refine zG (qA tyF Fo) λK hK=>?_;refine WE.con (xu H2 a b w p.1 v ha hw hV) λw' H3 g3 hq=>?_;subst hq;have g3:=g2.gr g3;cases hv:sy p.1 v with
 |false=>
  refine zK tyF ?_;exact fin (54) _ _ qp qe (g3) ((by rw[zB0 hv]at G0;exact G0))
 |true=>
  refine zK tyF ?_;exact fin (0) _ _ qp qe (g3) ((by rw[hv,zB1 (by decide:¬(true=false))]at G0;exact G0))
def Hf:ao Tryz.prog 10=true:=by kernel_rfl
def lE(v:List Int):Nat->List Int->List Rl->List Int
 |_,acc,[]=>acc
 |i,acc,x::l=>lE v (i+1) (if aY v 0 x.2=v.getD x.1.toNat 0 then acc else acc++[(i:Int)]) l
def dk(o:Option (List Lad))(p:Pz)(v:List Int):List Int×Int:=if ep o p v≠0 then([],ep o p v)else(lE v 0 [] p.2,0)
def Bg{lc:List Cl}:∀{lr:List Rl}{T S:List Int},goR lc T S lr=true->∀x∈lr,(0≤x.1∧x.1<lc.length)∧∀m∈x.2,0≤m∧m<lc.length
 |[],_,_,_,_,h=>by cases h
 |y::lr,T,S,h,x,hx=>by
  rw[goR]at h;by_cases c0:y.1<0
  ·rw[zB0 c0]at h;cases h
  rw[zB1 c0]at h;by_cases c1:(lc.length:Int)≤y.1
  ·rw[zB0 c1]at h;cases h
  rw[zB1 c1]at h;cases c2:T.any (λz=>z==y.1)with
  |true=>rw[c2,zB0 rfl]at h;cases h
  |false=>
  rw[c2,zB1 zA8]at h;cases c3:fS lc y.1 [] y.2 with
  |false=>rw[c3,zB0 rfl]at h;cases h
  |true=>
  rw[c3,zB1 (by decide:¬(true=false))]at h;rcases List.mem_cons.1 hx with rfl|hx
  ·exact⟨⟨by omega,by omega⟩,pW lc _ _ [] c3⟩
  exact Bg h x hx
def nB{o:Option (List Lad)}{p:Pz}{v:List Int}(h:ep o p v=0):p.1.length≤64∧p.2.length≤64∧v.length=p.1.length∧jl o p=0∧∀x∈p.2,(0≤x.1∧x.1<v.length)∧∀m∈x.2,0≤m∧m<v.length:=by
 unfold ep at h;by_cases c0:jl o p≠0
 ·rw[zB0 c0]at h;exact absurd h c0
 rw[zB1 c0]at h;have c0:=Classical.not_not.1 c0;obtain⟨_,_,h1,h2,_,h4⟩:=lV c0
 cases hv:sy p.1 v with
 |false=>rw[zB0 hv]at h;cases h
 |true=>
  unfold sy at hv;rw[Bool.and_eq_true]at hv;have hl:v.length=p.1.length:=by have:=eq_of_beq hv.1;omega
  exact⟨h1,h2,hl,c0,by rw[hl];exact Bg h4⟩
def zt(H:Hp)(k a b w:AC)(o:Option (List Lad))(p:Pz)(v:List Int)(hk:bF H k o)(hL:∀ls,o=some ls->∀x∈ls,x.2.length≤1000000)(ha:dH H a p.1)(hb:dA H b p.2)(hB:PzB p)(hw:SlI H w v)(hV:v.length≤4611686018427387904):
  Con E2 10 [.one k,.agg [a,b],.one w] H (λ_=>False) λr H'=>∃c,r=.tup [(false,[c]),(false,[.i .i64 (dk o p v).2])]∧SlI H' c (dk o p v).1:=by
 refine Con.of rfl λlg=>?_;have hk:bF ⟨H.t,H.nx,lg⟩ k o:=bF.same (H:=H) rfl rfl hk;have ha:dH ⟨H.t,H.nx,lg⟩ a p.1:=ha;have hb:dA ⟨H.t,H.nx,lg⟩ b p.2:=hb;have hw:SlI ⟨H.t,H.nx,lg⟩ w v:=hw;generalize(⟨H.t,H.nx,lg⟩:Hp)=H at hk ha hb hw ⊢
 refine C1.body (E:=E2) (nt:=42) (res:=[.tmp 6,.tmp 7]) Tryz.func10 rfl rfl rfl rfl rfl λtm z0=>?_;have h0:=z0 0 _ rfl;have h1:=z0 1 _ rfl;have h2:=z0 2 _ rfl;clear z0;generalize G0:dk o p v=r0;have fin:∀(c:AC)(e:Int)(A:aa)(H3:Hp),slot A.tm 6=.one c->slot A.tm 7=.one (.i .i64 e)->A.dfr=[]->Gr H H3->SlI H3 c r0.1∧e=r0.2->∃w H4,aC E2 [.tmp 6,.tmp 7] (.ret,A,H3)=.ok [(w,H4)]∧Gr H H4∧∀lg':List Nat,∃c,w=.tup [(false,[c]),(false,[.i .i64 r0.2])]∧SlI ⟨H4.t,H4.nx,lg'⟩ c r0.1:=λc e A H3 h1 h2 h3 h4 h5=>⟨_,H3,aZ c (.i .i64 e) (.inr rfl) h3 h1 h2,h4,λ_=>⟨c,by rw[h5.2],h5.1⟩⟩;unfold dk at G0;refine zG tyF λK hK=>?_;refine hK.out _ _ ?_;refine R1.gen (λA1 H1=>Gr H H1∧H.nx<H1.nx∧H1.get H.nx=some (.arr [a,b] 26 0 0)∧slot A1.tm 0=.one (k)∧slot A1.tm 2=.one (w)∧slot A1.tm 4=.one ((.o (.ptr H.nx 0 0 2)))∧A1.nt=42∧A1.dfr=[]) ⟨(Fr.refl _).new _,zA6 _,aB rfl,zL⟩ ?_;rintro A1 H1 ⟨g1,m1,rx,t0,t2,t4,A0,B0⟩;clear h0 h1 h2 tm hK K;have hk:=hk.gr g1;have ha:=ha.gr g1;have hb:=hb.gr g1;have hw:=hw.gr g1;refine zG (qA tyF iO) λK hK=>?_;refine WE.con (gU H1 k a b w o p v hk hL ha hb hB hw hV) λw' H2 g2 hq=>?_;subst hq;have rx:=(g2.get _ m1 zB2).trans rx;have m1:=zA0 m1 g2.nx;have hb:=hb.gr g2;have hw:=hw.gr g2;have g2:=g1.gr g2;clear g1 hk ha;have D0:=@nB o p v;generalize ep o p v=e0 at G0 D0;by_cases W0:e0=0
 case neg=>
  have ce:(e0==0)=false:=zB5 W0;refine zK tyF ?_;exact fin (.o .nilS) (e0) _ _ qp qp qe (g2) (⟨by rw[<-G0,zB0 W0];exact SlI.nil,by rw[<-G0,zB0 W0]⟩)
 rw[zB1 (λh=>h W0)]at G0;obtain⟨hC,hR,I1,_,B9⟩:=D0 W0
 clear D0;have hP:=hB.p;obtain⟨lc,lr⟩:=p
 simp only at G0 hb hC hR I1 B9 hP
 clear I1;have ce:(e0==0)=true:=by rw[W0];rfl
 obtain⟨N,hN⟩:∃N,N=H.nx:=⟨_,rfl⟩
 rw[<-hN]at m1 rx t4;clear hN;obtain⟨zi,hzi,s_⟩:=Ct
 have l1:=hb.len;have l2:=hb.lt;refine zK tyF ?_;refine R1.fb λK k1 k2 k3 k4=>?_;refine R1.loop (λm A H3=>∃(i:Nat)(out:List Int)(u:AC)(r:Option Nat),m=lr.length-i∧i≤lr.length∧out.length≤i∧Gr H2 H3∧(lE v i out (lr.drop i),0)=r0∧dg H3 u 3 1 out.length (out.flatMap Df) r∧(∀q,r=some q->H2.nx≤q)∧slot A.tm 0=.one (k)∧slot A.tm 2=.one (w)∧slot A.tm 9=.one (u)∧slot A.tm 20=.one (b)∧slot A.tm 21=.one (.i .i64 (lr.length:Int))∧slot A.tm 22=.one (.i .i64 (i:Int))∧A.nt=42∧A.dfr=[]) ?_ lr.length
  ⟨0,[],.o .nilS,none,rfl,Nat.zero_le _,Nat.zero_le _,Fr.refl _,G0,.inl ⟨rfl,rfl,rfl,rfl⟩,λq hq=>(by cases hq),zL⟩
 clear t0 t2 t4 A0 B0 A1 G0 l1 l2 k3 hK;rintro m A H3 ⟨i,out,u,r,rfl,hi,L2,g3,hr,u_,P0,t0,t2,t9,t20,t21,t22,A0,B0⟩;refine zW tyF ?_;refine zI tyF (λhc=>?_) (λhc=>?_)
 ·have C0:i<lr.length:=by omega
  have ex:lr[i]?=some lr[i]:=zB4 C0;have N0:lr.drop i=lr[i]::lr.drop (i+1):=List.drop_eq_getElem_cons C0;have I2:lr.take (i+1)=lr.take i++[lr[i]]:=List.take_succ_eq_append_getElem C0;have E0:lr[i]∈lr:=List.getElem_mem C0;generalize lr[i]=x at ex N0 I2 E0;have B3:=zC0 i (by omega);obtain⟨⟨X2,U7⟩,hxp⟩:=B9 x E0
  have hPx:=hP x E0;obtain⟨id,g,off,cells,rfl,hid,B1,K0⟩:=(hb.gr g3).open (by omega)
  obtain⟨u1,O0⟩:=K0 i x ex
  obtain⟨X1,y1,y2,_,_,_,_⟩:=O0
  clear K0;rw[N0,lE]at hr;refine zW tyF ?_;refine R1.fb λK2 q1 q2 q3 q4=>?_;refine zG (qA tyF (ixC C0)) λK hK=>?_;refine hK.out _ _ ?_;refine R1.gen (λA4 H4=>Gr H3 H4∧H3.nx<H4.nx∧H4.get H3.nx=some (.arr [.i .i64 x.1,u1] 82 0 0)∧slot A4.tm 0=.one (k)∧slot A4.tm 2=.one (w)∧slot A4.tm 9=.one (u)∧slot A4.tm 10=.one (.i .i64 (i:Int))∧slot A4.tm 11=.one ((.o (.ptr H3.nx 0 0 2)))∧slot A4.tm 20=.one ((.o (.sl id g off lr.length 2)))∧slot A4.tm 21=.one (.i .i64 (lr.length:Int))∧slot A4.tm 22=.one (.i .i64 (i:Int))∧A4.nt=42∧A4.dfr=[])
   ⟨((Fr.refl _).new _).mod _ (.inl (zA1 _)),zA6 _,an rfl,zL⟩ ?_
  clear t0 t2 t9 t20 t21 t22 A0 B0 A B1 hid y1 y2 hK K;rintro A H4 ⟨g4,n4,rx,t0,t2,t9,t10,t11,t20,t21,t22,A0,B0⟩;have f_:=(hw.gr g3).gr g4;obtain⟨id',g',off',cells',rfl,Y6,hgr4,S8⟩:=f_.open (by omega)
  have ev:v[x.1.toNat]?=some (v.getD x.1.toNat 0):=by rw[List.getD_eq_getElem?_getD,zB4 (by omega)];rfl
  obtain⟨e3,e4⟩:=S8 _ _ ev
  clear S8;have hid4':id'<H4.nx:=Y6;refine zO (qA tyF pK) λK hK=>?_;refine WE.xk (nT H4 u1 _ x.1 x.2 v (X1.gr g4) f_ hxp (by omega)) λkx H5 g5 hkx=>?_;subst hkx;have g35:=g4.gr g5;have rx5:=(g5.get _ n4 zB2).trans rx;have n5:=zA0 n4 g5.nx;have hid5:=zA0 Y6 g5.nx;have hgr5:rowOf (H5.get id') g'=some cells':=by rw[g5.get _ Y6 zB2];exact hgr4
  generalize aY v 0 x.2=n at hr ⊢;generalize v.getD x.1.toNat 0=n2 at hr e3;by_cases hq:n=n2
  ·have ce:(n==n2)=true:=beq_iff_eq.2 hq;rw[zB0 hq]at hr;clear hq;refine zQ (qA tyF (ixI X2 U7)) ?_;refine hK.out _ _ ?_;refine zW tyF ?_;refine q1.out _ _ ?_;refine zW tyF ?_;exact⟨lr.length-(i+1),by omega,i+1,out,u,r,rfl,C0,zA7 L2,g3.gr g35,hr,u_.fr g35 λ_ _ h=>h,P0,zL⟩
  have ce:(n==n2)=false:=zB5 hq;rw[zB1 hq]at hr;clear hq;refine zQ (qA tyF (ixI X2 U7)) ?_;refine hK.out _ _ ?_;refine zW tyF ?_;obtain⟨hlt5,v6,H6,r6,Q2,ho6,D8,hr6⟩:=fI er sB hzi s_ (by decide) (u_.fr g35 λ_ _ h=>h) [.i .i64 ((i:Int))] rfl (by omega)
  clear hzi s_;refine zG (zDd tyF (oz) Q2) λK hK=>?_;refine⟨hlt5,?_⟩
  refine zK tyF ?_;refine q1.out _ _ ?_;refine zW tyF ?_;refine⟨lr.length-(i+1),by omega,i+1,out++[(i:Int)],v6,some r6,rfl,C0,by rw[List.length_append];exact Nat.succ_le_succ L2,(g3.gr g35).then D8 λq hq=>.inl (P0 q hq),hr,?_,λq hq=>?_,zL⟩
  ·rw[List.length_append,List.flatMap_append];exact ho6
  cases hq
  rcases hr6 with e|e
  ·exact P0 _ e
  exact zA2 (g3.gr g35).nx e
 have S1:i=lr.length:=by omega
 refine zW tyF ?_;refine k2.out _ _ ?_;refine zW tyF ?_;rw[S1,List.drop_length,lE]at hr;exact fin (u) (0) _ _ qp qp qe (g2.gr g3) (⟨by rw[<-hr];exact u_.slc,by rw[<-hr]⟩)
def RS:ao Tryz.prog 116=true:=by kernel_rfl
def Te:ao Tryz.prog 66=true:=by kernel_rfl
def xc:ao Tryz.prog 79=true:=by kernel_rfl
def aG:List Pr->Int->List Int
 |[],_=>[]
 |[_],n=>[n]
 |_::y::l,n=>n%y.2::aG (y::l) (n/y.2)
def iR:∀(us:List Pr)(n:Int),(aG us n).length=us.length
 |[],_=>rfl
 |[_],_=>rfl
 |_::y::l,n=>by rw[aG,List.length_cons,iR (y::l),List.length_cons];rfl
def Kw(l:List Int):l.flatMap Df=l.map (AC.i .i64):=by
 induction l with
 |nil=>rfl
 |cons x l ih=>rw[List.flatMap_cons,ih];rfl
def Kd{H:Hp}{q:Nat}{l:List Int}{lo gen:Nat}(hg:H.get q=some (.arr (l.map (AC.i .i64)) 3 lo gen))(hl:lo≤gen)(hq:q<H.nx):SlI H (.o (.sl q gen 0 l.length 1)) l:=
 ⟨by rw[Kw,List.length_map,Nat.mul_one],.inr ⟨q,gen,0,rfl,hq,l.map (AC.i .i64),by rw[hg];exact cG hl (zA1 _),by rw[List.length_map];omega,by rw[List.drop_zero,List.take_of_length_le (by rw[List.length_map];omega),Kw]⟩⟩
def Qh{α:Type}(out:List α)(z a:α)(k:Nat):(out++List.replicate (k+1) z).set out.length a=(out++[a])++List.replicate k z:=by
 rw[List.set_append_right _ _ (zA1 _),Nat.sub_self,List.replicate_succ,List.set_cons_zero,List.append_assoc];rfl
def OZ(H:Hp)(nm:List UInt8)(u:AC)(us:List Pr)(n:Int)(hu:SlP H u us)(hL:us.length≤1000000)(J2:0≤n)(hn:n≤1099511627776)(hf:∀x∈us,1≤x.2∧x.2≤60):
  Con E2 116 [.agg [.o (.str nm),u],.one (.i .i64 n)] H (λ_=>False) λr H'=>∃c,r=.one c∧SlI H' c (aG us n)∧∀id∈(AV.one c).ids,H.nx≤id:=by
 refine Con.of rfl λlg=>?_;have hu:SlP ⟨H.t,H.nx,lg⟩ u us:=hu;have e0:H.nx=(⟨H.t,H.nx,lg⟩:Hp).nx:=rfl;rw[e0];clear e0;generalize(⟨H.t,H.nx,lg⟩:Hp)=H at hu ⊢
 refine C1.body (E:=E2) (nt:=48) (res:=[.tmp 4]) Tryz.func116 rfl rfl rfl rfl rfl λtm z0=>?_;have h0:=z0 0 _ rfl;have h1:=z0 1 _ rfl;clear z0;obtain⟨z,hz,q8⟩:∃z,ay Tryz.prog 3=some z∧(ofValue z).cells=[.i .i64 0]:=⟨.int .i64 0,BJ,rfl⟩
 have mk:∀H,cL Tryz.prog H 27 (.one (.i .i64 (us.length:Int))) (.one (.i .i64 (us.length:Int)))=.val (.one (.o (.sl H.nx 0 0 us.length 1))) (H.new (.arr ((List.replicate us.length (0:Int)).map (AC.i .i64)) 3 0 0)):=λH=>by
  rw[oW er sB hz (by rw[q8];rfl) (by omega),q8,uv,List.map_replicate]
 clear hz q8;have C':=hu;refine zG tyF λK hK=>?_;refine hK.out _ _ ?_;refine R1.gen (λA1 H1=>Gr H H1∧H.nx+1=H1.nx∧H1.get H.nx=some (.arr [.o (.str nm),u] 51 0 0)∧slot A1.tm 1=.one (.i .i64 (n:Int))∧slot A1.tm 2=.one ((.o (.ptr H.nx 0 0 2)))∧A1.nt=48∧A1.dfr=[]) ⟨(Fr.refl _).new _,rfl,aB rfl,zL⟩ ?_;rintro A1 H1 ⟨g1,n1,rx,t1,t2,A0,B0⟩;clear h0 h1 tm hK K;have m1:H.nx<H1.nx:=by omega
 obtain⟨N,hN⟩:∃N,N=H.nx:=⟨_,rfl⟩
 rw[<-hN]at n1 rx t2 m1;replace hN:Hd (N=H.nx):=hN;replace n1:Hd (N+1=H1.nx):=n1;have hu:=hu.gr g1;have l1:=hu.len;have l2:=hu.lt;refine zG (qA tyF mk) λK hK=>?_;refine hK.out _ _ ?_;refine R1.gen (λA2 H2=>Gr H1 H2∧N+1<H2.nx∧H2.get (N+1)=some (.arr ((([]:List Int)++List.replicate us.length 0).map (AC.i .i64)) 3 0 0)∧slot A2.tm 1=.one (.i .i64 (n:Int))∧slot A2.tm 2=.one ((.o (.ptr N 0 0 2)))∧slot A2.tm 5=.one ((.o (.sl (N+1) 0 0 us.length 1)))∧A2.nt=48∧A2.dfr=[])
  ⟨(Fr.refl _).new _,by have:=n1.out;show _<H1.nx+1;omega,aB n1.out,?_⟩ ?_
 ·rw[n1.out];exact zL
 clear t1 t2 A0 B0 A1 mk l1 l2 hK K;rintro A2 H2 ⟨g2,m2,rs,t1,t2,t5,A0,B0⟩;have rx:=(g2.get _ m1 zB2).trans rx;have m1:=zA0 m1 g2.nx;have hu:=hu.gr g2;have g2:=g1.gr g2;clear g1 n1;refine zW (qA tyF m2) ?_;refine R1.fb λK k1 k2 k3 k4=>?_;refine R1.loop (λm A H3=>∃(i:Nat)(out:List Int)(k:Int),m=us.length-i∧i≤us.length∧out.length=i∧0≤k∧k≤1099511627776∧Gr H H3∧N<H3.nx∧N+1<H3.nx∧H3.get N=some (.arr [.o (.str nm),u] 51 0 0)∧H3.get (N+1)=some (.arr ((out++List.replicate (us.length-i) 0).map (AC.i .i64)) 3 0 0)∧out++aG (us.drop i) k=aG us n ∧
   slot A.tm 1=.one (.i .i64 (k:Int))∧slot A.tm 2=.one ((.o (.ptr N 0 0 2)))∧slot A.tm 5=.one ((.o (.sl (N+1) 0 0 us.length 1)))∧slot A.tm 12=.one (.i .i64 (us.length:Int))∧slot A.tm 13=.one (.i .i64 (i:Int))∧A.nt=48∧A.dfr=[]) ?_ us.length
  ⟨0,[],n,rfl,Nat.zero_le _,rfl,J2,hn,g2,m1,m2,rx,rs,rfl,zL⟩
 clear t1 t2 t5 A0 B0 A2 rx rs hu m1 m2 k3 g2;rintro m A H3 ⟨i,out,k,rfl,hi,L2,Q3,U4,g3,m1,m2,rx,rs,T6,t1,t2,t5,t12,t13,A0,B0⟩;refine zW tyF ?_;refine zI tyF (λhc=>?_) (λhc=>?_)
 ·have C0:i<us.length:=by omega
  have B3:=zC0 i (by omega);have hle:i+1≤((out++List.replicate (us.length-i) (0:Int)).map (AC.i .i64)).length:=by rw[List.length_map,List.length_append,List.length_replicate];omega
  have z5:∀a:Int,List.take i ((out++List.replicate (us.length-i) (0:Int)).map (AC.i .i64))++AC.i .i64 a::List.drop (i+1) ((out++List.replicate (us.length-i) (0:Int)).map (AC.i .i64))=((out++[a])++List.replicate (us.length-(i+1)) 0).map (AC.i .i64):=λa=>by
   rw[setRow (AC.i .i64) _ _ a (by rw[List.length_append,List.length_replicate];omega)];have e:us.length-i=(us.length-(i+1))+1:=by omega
   rw[e,<-L2,Qh]
  refine zW tyF ?_;refine R1.fb λK2 q1 q2 q3 q4=>?_;have L1:(aG us n).length=us.length:=iR us n;by_cases V1:i+1=us.length
  ·have ce:(((i+1:Nat):Int)==(us.length:Int))=true:=by rw[V1];exact beq_self_eq_true _
   replace V1:Hd (i+1=us.length):=V1;refine zW (zDf tyF (ixC C0) z5 Nat.mul_one hle) ?_;refine q3.out 0 _ _ (by decide) ?_;refine k2.out _ _ ?_;refine zW tyF ?_;have N0:us.drop i=[us[i]]:=by
    rw[List.drop_eq_getElem_cons C0,List.drop_of_length_le (by have:=V1.out;omega)]
   rw[N0,aG]at T6;have e0:us.length-(i+1)=0:=by have:=V1.out;omega
   have j9:=Kd (H:=H3.mod (N+1) (.arr ((aG us n).map (AC.i .i64)) 3 0 0)) (an rfl) (zA1 _) m2;rw[L1]at j9;rw[e0,List.replicate_zero,List.append_nil,T6];exact⟨_,_,aj (.o (.sl (N+1) 0 0 us.length 1)) (.inr rfl) qe qp,g3.mod _ (.inl (by have:=hN.out;omega)),λ_=>⟨_,rfl,j9,λk hk=>by have:=hN.out;rw[List.mem_singleton.1 hk];omega⟩⟩
  have ce:(((i+1:Nat):Int)==(us.length:Int))=false:=zB5 (by omega);have D2:i+1<us.length:=by omega
  have N0:us.drop i=us[i]::us[i+1]::us.drop (i+2):=by
   rw[List.drop_eq_getElem_cons C0,List.drop_eq_getElem_cons D2]
  have hdr2:us.drop (i+1)=us[i+1]::us.drop (i+2):=List.drop_eq_getElem_cons D2;have ey:us[i+1]?=some us[i+1]:=zB4 D2;obtain⟨O5,hy2⟩:=hf us[i+1] (List.getElem_mem D2)
  rw[N0,aG,<-hdr2]at T6;clear N0 hdr2;generalize us[i+1]=y at ey O5 hy2 T6;obtain⟨id,g,off,cells,rfl,U2,hgr0,K0⟩:=C'.open (by omega)
  have hidN:id<N:=by have:=hN.out;omega
  have hid:id<H3.nx:=by omega
  have B1:rowOf (H3.get id) g=some cells:=by rw[g3.get _ U2 zB2];exact hgr0
  have hgm:∀X,rowOf ((H3.mod (N+1) X).get id) g=some cells:=λX=>by rw[au (by omega)];exact B1
  have hgx:∀X,(H3.mod (N+1) X).get N=some (.arr [.o (.str nm),.o (.sl id g off us.length 2)] 51 0 0):=λX=>(au (by omega)).trans rx;have hy:=K0 _ y ey;have y1:=hy.snd;have y2:=hy.le2;clear K0 hy U2 hgr0;have hy0:y.2≠0:=by omega
  have e1:k.tmod y.2=k%y.2:=Int.tmod_eq_emod_of_nonneg Q3;have e3:k/y.2≤k:=Int.ediv_le_self _ Q3;have e4:0≤k/y.2:=Int.ediv_nonneg Q3 (by omega);have e2:IntKind.i64.wrap (k.tdiv y.2)=k/y.2:=by rw[Int.tdiv_eq_ediv_of_nonneg Q3];exact aP (by omega) (by omega)
  refine zW (zDj tyF (ixC C0) (ixC D2) z5 Nat.mul_one hle arQ (quoI hy0) (remI hy0)) ?_;refine q1.out _ _ ?_;refine zW tyF ?_;exact⟨us.length-(i+1),by omega,i+1,out++[k%y.2],k/y.2,rfl,C0,by rw[List.length_append,L2];rfl,e4,by omega,g3.mod _ (.inl (by have:=hN.out;omega)),m1,m2,(au (by omega)).trans rx,an rfl,by rw[List.append_assoc];exact T6,zL⟩
 have S1:i=us.length:=by omega
 refine zW tyF ?_;refine k2.out _ _ ?_;refine zW tyF ?_;rw[S1,List.drop_length,aG,List.append_nil]at T6;rw[S1,Nat.sub_self,List.replicate_zero,List.append_nil,T6]at rs;have j9:=Kd rs (zA1 _) m2;rw[iR us n]at j9;exact⟨_,_,aj (.o (.sl (N+1) 0 0 us.length 1)) (.inr rfl) qe qp,g3,λ_=>⟨_,rfl,j9,λk hk=>by have:=hN.out;rw[List.mem_singleton.1 hk];omega⟩⟩
def cE:List Int->Int
 |[]=>0
 |x::l=>if x=0 then cE l else x
def ss(H:Hp)(w:AC)(l:List Int)(hw:SlI H w l)(hL:l.length≤4611686018427387904):
  Con E2 79 [.one w] H (λ_=>False) λr _=>r=.one (.i .i64 (cE l)):=by
 refine Con.of rfl λlg=>?_;have hw:SlI ⟨H.t,H.nx,lg⟩ w l:=hw;generalize(⟨H.t,H.nx,lg⟩:Hp)=H at hw ⊢
 refine C1.body (E:=E2) (nt:=15) (res:=[.tmp 2]) Tryz.func79 rfl rfl rfl rfl rfl λtm z0=>?_;have h0:=z0 0 _ rfl;clear z0;have fin:∀(e:Int)(A:aa)(H3:Hp),slot A.tm 2=.one (.i .i64 e)->A.dfr=[]->Gr H H3->e=cE l->∃w H4,aC E2 [.tmp 2] (.ret,A,H3)=.ok [(w,H4)]∧Gr H H4∧∀_:List Nat,w=.one (.i .i64 (cE l)):=λe A H3 h1 h2 h3 h4=>⟨_,H3,aj (.i .i64 e) (.inr rfl) h2 h1,h3,λ_=>by rw[h4]⟩;generalize G0:cE l=r0 at fin;have l1:=hw.len;have l2:=hw.lt;refine zW tyF ?_;refine R1.fb λK k1 k2 k3 k4=>?_;refine R1.loop (λm A H2=>∃i:Nat,m=l.length-i∧i≤l.length∧H2=H∧cE (l.drop i)=r0∧slot A.tm 5=.one (w)∧slot A.tm 6=.one (.i .i64 (l.length:Int))∧slot A.tm 7=.one (.i .i64 (i:Int))∧A.nt=15∧A.dfr=[]) ?_ l.length ⟨0,rfl,Nat.zero_le _,rfl,G0,zL⟩;clear h0 tm G0 l1 l2;rintro m A H2 ⟨i,rfl,C4,rfl,hr,t5,t6,t7,A0,B0⟩;refine zW tyF ?_;refine zI tyF (λhc=>?_) (λhc=>?_)
 ·have C0:i<l.length:=by omega
  have ex:=zB4 C0;have N0:=zC1 C0;have I2:=zC2 C0;have E0:l[i]∈l:=List.getElem_mem C0;generalize l[i]=x at ex N0 I2 E0;have B3:=zC0 i (by omega);obtain⟨id,g,off,cells,rfl,hid,B1,K0⟩:=hw.open (by omega)
  obtain⟨e1,e2⟩:=K0 i x ex
  rw[N0,cE]at hr;clear K0;refine zW tyF ?_;refine R1.fb λK2 q1 q2 q3 q4=>?_;by_cases hx:x=0
  ·have ce:(x==0)=true:=beq_iff_eq.2 hx;rw[zB0 hx]at hr;replace hx:Hd (x=0):=hx;refine zW (qA tyF (ixC C0)) ?_;refine q1.out _ _ ?_;refine zW tyF ?_;exact⟨l.length-(i+1),by omega,i+1,rfl,C0,rfl,hr,zL⟩
  have ce:(x==0)=false:=zB5 hx;refine zW (qA tyF (ixC C0)) ?_;exact q4.out _ _ (k4.out _ _ (fin (x) _ _ qp qe (Fr.refl _) ((by rw[zB1 hx]at hr;exact hr))))
 have S1:i=l.length:=by omega
 refine zW tyF ?_;refine k2.out _ _ ?_;refine zW tyF ?_;rw[S1,List.drop_length,cE]at hr;exact fin (0) _ _ qp qe (Fr.refl _) (hr)
def Cx{H:Hp}(a b:Int){e:TypeId}:SlI (H.new (.arr [.i .i64 a,.i .i64 b] e 0 0)) (.o (.sl H.nx 0 0 2 1)) [a,b]:=
 ⟨rfl,.inr ⟨H.nx,0,0,rfl,zA6 _,_,by rw[aB rfl];exact cG (zA1 _) (zA1 _),zA1 _,rfl⟩⟩
def fB(nm:List UInt8)(us:List Pr)(n:Int):List Int×Int:=if aH nm us≠0 then([],aH nm us)else if 0≤n∧n≤1099511627776 then(aG us n,0)else([],8)
def IM(H:Hp)(nm:List UInt8)(u:AC)(us:List Pr)(n:Int)(hu:SlP H u us):
  Con E2 66 [.agg [.o (.str nm),u],.one (.i .i64 n)] H (λ_=>False) λr H'=>∃c,r=.tup [(false,[c]),(false,[.i .i64 (fB nm us n).2])]∧SlI H' c (fB nm us n).1∧∀id∈(AV.one c).ids,H.nx≤id:=by
 refine Con.of rfl λlg=>?_;have hu:SlP ⟨H.t,H.nx,lg⟩ u us:=hu;have e0:H.nx=(⟨H.t,H.nx,lg⟩:Hp).nx:=rfl;rw[e0];clear e0;generalize(⟨H.t,H.nx,lg⟩:Hp)=H at hu ⊢
 refine C1.body (E:=E2) (nt:=24) (res:=[.tmp 4,.tmp 5]) Tryz.func66 rfl rfl rfl rfl rfl λtm z0=>?_;have h0:=z0 0 _ rfl;have h1:=z0 1 _ rfl;clear z0;generalize G0:fB nm us n=r0;have fin:∀(c:AC)(e:Int)(A:aa)(H3:Hp),slot A.tm 4=.one c->slot A.tm 5=.one (.i .i64 e)->A.dfr=[]->Gr H H3->SlI H3 c r0.1∧e=r0.2∧(∀id∈(AV.one c).ids,H.nx≤id)->∃w H4,aC E2 [.tmp 4,.tmp 5] (.ret,A,H3)=.ok [(w,H4)]∧Gr H H4∧∀lg':List Nat,∃c,w=.tup [(false,[c]),(false,[.i .i64 r0.2])]∧SlI ⟨H4.t,H4.nx,lg'⟩ c r0.1∧∀id∈(AV.one c).ids,H.nx≤id:=λc e A H3 h1 h2 h3 h4 h5=>⟨_,H3,aZ c (.i .i64 e) (.inr rfl) h3 h1 h2,h4,λ_=>⟨c,by rw[h5.2.1],h5.1,h5.2.2⟩⟩;refine zG tyF λK hK=>?_;refine hK.out _ _ ?_;refine R1.gen (λA1 H1=>Gr H H1∧H.nx<H1.nx∧H1.get H.nx=some (.arr [.o (.str nm),u] 51 0 0)∧slot A1.tm 1=.one (.i .i64 (n:Int))∧slot A1.tm 2=.one ((.o (.ptr H.nx 0 0 2)))∧A1.nt=24∧A1.dfr=[]) ⟨(Fr.refl _).new _,zA6 _,aB rfl,zL⟩ ?_;rintro A1 H1 ⟨g1,m1,rx,t1,t2,A0,B0⟩;clear h0 h1 tm hK K;have hu:=hu.gr g1;refine zG (qA tyF uE) λK hK=>?_;refine WE.con (rS H1 nm u us hu) λw H2 g2 hq=>?_;subst hq;have rx:=(g2.get _ m1 zB2).trans rx;have m1:=zA0 m1 g2.nx;have hu:=hu.gr g2;have g2:=g1.gr g2;clear g1;have r2:jA [AC.i .i64 0] 2=[.i .i64 0,.i .i64 0]:=rfl;have D0:=@iA nm us;unfold fB at G0;generalize aH nm us=e0 at G0 D0;by_cases c0:0≤n
 case neg=>
  refine zS (qA tyF pv) ?_;refine WE.con (mZ H2 false 8) λw H3 g3 hq=>?_;subst hq;have rx:=(g3.get _ m1 zB2).trans rx;have m1:=zA0 m1 g3.nx;have hu:=hu.gr g3;have g3:=g2.gr g3;refine zS (qA tyF xc) ?_;refine WE.con (ss _ _ [e0,8] (Cx _ _) (by show 2≤_;omega)) λw H4 g4 hq=>?_;subst hq;have g4:Gr H3 H4:=((Fr.refl _).new _).gr g4;have rx:=(g4.get _ m1 zB2).trans rx;have m1:=zA0 m1 g4.nx;have hu:=hu.gr g4;have g4:=g3.gr g4;by_cases W0:e0=0
  case neg=>
   have ce:(cE [e0,8]==0)=false:=by rw[cE,zB1 W0];exact zB5 W0
   have cf:cE [e0,8]=e0:=by rw[cE,zB1 W0]
   rw[cf]at ce;refine zK tyF ?_;exact fin (.o .nilS) (e0) _ _ qp qp qe (g4) (⟨by rw[<-G0,zB0 W0];exact SlI.nil,by rw[<-G0,zB0 W0],λ_ h=>by cases h⟩)
  rw[zB1 (λh=>h W0)]at G0;have cf:cE [e0,8]=8:=by rw[cE,zB0 W0];rfl
  replace W0:Hd (e0=0):=W0;refine zK tyF ?_;exact fin (.o .nilS) (8) _ _ qp qp qe (g4) (⟨by rw[<-G0,zB1 (λh=>c0 h.1)];exact SlI.nil,by rw[<-G0,zB1 (λh=>c0 h.1)],λ_ h=>by cases h⟩)
 by_cases c1:n≤1099511627776
 case neg=>
  refine zS (qA tyF pv) ?_;refine WE.con (mZ H2 false 8) λw H3 g3 hq=>?_;subst hq;have rx:=(g3.get _ m1 zB2).trans rx;have m1:=zA0 m1 g3.nx;have hu:=hu.gr g3;have g3:=g2.gr g3;refine zS (qA tyF xc) ?_;refine WE.con (ss _ _ [e0,8] (Cx _ _) (by show 2≤_;omega)) λw H4 g4 hq=>?_;subst hq;have g4:Gr H3 H4:=((Fr.refl _).new _).gr g4;have rx:=(g4.get _ m1 zB2).trans rx;have m1:=zA0 m1 g4.nx;have hu:=hu.gr g4;have g4:=g3.gr g4;by_cases W0:e0=0
  case neg=>
   have ce:(cE [e0,8]==0)=false:=by rw[cE,zB1 W0];exact zB5 W0
   have cf:cE [e0,8]=e0:=by rw[cE,zB1 W0]
   rw[cf]at ce;refine zK tyF ?_;exact fin (.o .nilS) (e0) _ _ qp qp qe (g4) (⟨by rw[<-G0,zB0 W0];exact SlI.nil,by rw[<-G0,zB0 W0],λ_ h=>by cases h⟩)
  rw[zB1 (λh=>h W0)]at G0;have cf:cE [e0,8]=8:=by rw[cE,zB0 W0];rfl
  replace W0:Hd (e0=0):=W0;refine zK tyF ?_;exact fin (.o .nilS) (8) _ _ qp qp qe (g4) (⟨by rw[<-G0,zB1 (λh=>c1 h.2)];exact SlI.nil,by rw[<-G0,zB1 (λh=>c1 h.2)],λ_ h=>by cases h⟩)
 refine zS (qA tyF pv) ?_;refine WE.con (mZ H2 true 8) λw H3 g3 hq=>?_;subst hq;have rx:=(g3.get _ m1 zB2).trans rx;have m1:=zA0 m1 g3.nx;have hu:=hu.gr g3;have g3:=g2.gr g3;refine zS (qA tyF xc) ?_;refine WE.con (ss _ _ [e0,0] (Cx _ _) (by show 2≤_;omega)) λw H4 g4 hq=>?_;subst hq;have g4:Gr H3 H4:=((Fr.refl _).new _).gr g4;have rx:=(g4.get _ m1 zB2).trans rx;have m1:=zA0 m1 g4.nx;have hu:=hu.gr g4;have g4:=g3.gr g4;by_cases W0:e0=0
 case neg=>
  have ce:(cE [e0,0]==0)=false:=by rw[cE,zB1 W0];exact zB5 W0
  have cf:cE [e0,0]=e0:=by rw[cE,zB1 W0]
  rw[cf]at ce;refine zK tyF ?_;exact fin (.o .nilS) (e0) _ _ qp qp qe (g4) (⟨by rw[<-G0,zB0 W0];exact SlI.nil,by rw[<-G0,zB0 W0],λ_ h=>by cases h⟩)
 rw[zB1 (λh=>h W0)]at G0;have cf:cE [e0,0]=0:=by rw[cE,zB0 W0];rfl
 obtain⟨_,_,hf⟩:=D0 W0
 have O4:=(D0 W0).1;replace W0:Hd (e0=0):=W0;refine zK tyF ?_;refine zG (qA tyF RS) λK hK=>?_;refine WE.con (OZ H4 nm u us n hu (by omega) c0 c1 hf) λw H5 g5⟨c,hq,hc,j_⟩=>?_;subst hq;refine zK tyF ?_;exact fin (c) (0) _ _ qp qp qe (g4.gr g5) (⟨by rw[<-G0,zB0 ⟨c0,c1⟩];exact hc,by rw[<-G0,zB0 ⟨c0,c1⟩],λid h=>zA2 g4.nx (j_ id h)⟩)
def eB{nm:List UInt8}{us:List Pr}(h:aH nm us=0):∃x l,us=x::l∧x.2=1:=by
 unfold aH at h;cases hl:eL nm us with
 |false=>rw[hl,zB1 zA8]at h;cases h
 |true=>
  unfold eL at hl;simp only[Bool.and_eq_true]at hl;obtain⟨⟨⟨⟨_,h1⟩,_⟩,_⟩,h2⟩:=hl
  cases us with
  |nil=>simp at h1
  |cons x l=>
   refine⟨x,l,rfl,?_⟩
   have:=List.all_eq_true.1 h2 0 (List.mem_range.2 (Nat.succ_pos _));unfold okU at this;simp only[Bool.and_eq_true]at this;have h3:=this.2;simp at h3
   exact h3
def evH:List Pr->List Int->Int
 |_::y::l,d::ds=>d+y.2*evH (y::l) ds
 |_,d::_=>d
 |_,[]=>0
def vW:List Pr->Nat->Int
 |_,0=>1
 |_::y::l,i+1=>y.2*vW (y::l) i
 |_,_+1=>0
def oY(us:List Pr)(ds:List Int):Prop:=ds.length=us.length∧∀i,i<us.length->0≤ds.getD i 0∧(i+1<us.length->ds.getD i 0<(us.getD (i+1) ([],0)).2)
def oY.tl{x y:Pr}{l:List Pr}{d:Int}{ds:List Int}(h:oY (x::y::l) (d::ds)):0≤d∧d<y.2∧oY (y::l) ds:=by
 obtain⟨h1,h2⟩:=h
 have h0:=h2 0 (by simp);refine⟨h0.1,h0.2 (by simp),by simpa using h1,λi hi=>?_⟩
 have:=h2 (i+1) (by simp at hi ⊢;omega);refine⟨this.1,λh=>this.2 (by simp at h ⊢;omega)⟩
def oY.cons{x y:Pr}{l:List Pr}{d:Int}{ds:List Int}(h0:0≤d)(h1:d<y.2)(h:oY (y::l) ds):oY (x::y::l) (d::ds):=by
 obtain⟨h2,h3⟩:=h
 refine⟨by simpa using h2,λi hi=>?_⟩
 cases i with
 |zero=>exact⟨h0,λ_=>h1⟩
 |succ i=>
  have:=h3 i (by simp at hi ⊢;omega);exact⟨this.1,λh=>this.2 (by simp at h ⊢;omega)⟩
def uD:∀(us:List Pr)(ds:List Int),oY us ds->aG us (evH us ds)=ds
 |[],[],_=>rfl
 |[],_::_,h=>by cases h.1
 |[_],[],h=>by cases h.1
 |[_],[_],_=>rfl
 |[_],_::_::_,h=>by cases h.1
 |_::_::_,[],h=>by cases h.1
 |x::y::l,d::ds,h=>by
  obtain⟨h0,h1,h2⟩:=h.tl
  have hy:y.2≠0:=by omega
  rw[evH,aG,Int.add_mul_emod_self_left,Int.emod_eq_of_lt h0 h1,Int.add_mul_ediv_left _ _ hy,Int.ediv_eq_zero_of_lt h0 h1,Int.zero_add,uD (y::l) ds h2]
def mW:∀(us:List Pr)(n:Int),us≠[]->evH us (aG us n)=n
 |[],_,h=>absurd rfl h
 |[_],_,_=>rfl
 |x::y::l,n,_=>by
  rw[aG,evH,mW (y::l) _ (by simp)];have:=Int.emod_add_mul_ediv n y.2;omega
def kg:∀(us:List Pr)(n:Int),0≤n->(∀x∈us,1≤x.2)->oY us (aG us n)
 |[],_,_,_=>⟨rfl,λi hi=>absurd hi (Nat.not_lt_zero i)⟩
 |[x],n,h,_=>⟨rfl,λi hi=>by
  have:i=0:=by simp at hi;omega
  subst this;exact⟨h,λh=>absurd h (by simp)⟩⟩
 |x::y::l,n,h,hf=>by
  have hy:=hf y (by simp);rw[aG];exact oY.cons (Int.emod_nonneg _ (by omega)) (Int.emod_lt_of_pos _ (by omega)) (kg (y::l) _ (Int.ediv_nonneg h (by omega)) λz hz=>hf z (List.mem_cons_of_mem _ hz))
end Go.Proofs.YtgepceljhelekaaGreat
end

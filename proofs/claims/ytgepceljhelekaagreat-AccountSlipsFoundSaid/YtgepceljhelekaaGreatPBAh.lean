/- A part of the proof. -/
import Derived.Test.YtgepceljhelekaaGreatPBAg
import Derived.KernelRfl
set_option maxRecDepth 100000
set_option maxHeartbeats 64000000
set_option linter.all false
open Go.Proofs.Tryz (prog)
noncomputable section
namespace Go.Proofs.YtgepceljhelekaaGreat
open Go Go.Eng
def FX{E:Env}{r:Option Nat}{z:Code}{A:ag}{H:Hp}{Q:ax->ag->Hp->Prop}{i:Nat}(h:R1 E r z A H Q):R1 E r (.seq (.label i) z) A H Q:=R1.seq ⟨0,_,_,_,rfl,h⟩
def ZC(acc:List Gp):Bool:=acc.getLast?.any BU
def kY(less:Bool):List Gp->List Gp->Int
 |_,[]=>0
 |acc,x::l=>
  if BU x=true then
   if less=true then 24 else if ZC acc=true then 5 else kY less (acc++[x]) l
  else if nmB x.2.1=false then 20 else if x.1<1\/(99:Int)<x.1 then 21 else if WX acc x.2.1=true then 22 else if(less&&x.2.2)=true then 24 else kY less (acc++[x]) l
def Qd{l:List Gp}{i:Nat}{y:Gp}(hi:0<i)(hy:l[i-1]?=some y):ZC (l.take i)=BU y:=by
 have h:(l.take i).getLast?=some y:=by have D0:=(List.getElem?_eq_some_iff.1 hy).1;rw[Gx,dY,wg aa,lR,ad aa];exact hy
 unfold ZC;rw[h];rfl
def rh(H:Hp)(v:AC)(l:List Gp)(less:Bool)(hv:jA H v l)(hL:l.length<=1000000):
  Con E2 168 [.one v,.one (.b less)] H (λ_=>False) λr _=>r=.one (.i .i64 (kY less [] l)):=by
 refine Con.qw (λH=>jA H v l) hv λH hv=>?_;refine C1.fK 69 [.tmp 4] Tryz.func168 λtm h0 h1=>?_;have fin:=Ax E2 H 4 (kY less [] l);generalize E0:kY less [] l=r0 at fin;refine qW (zDf aw h0 iP hv.len hv.lt) ?_;refine R1.scope (FX ?_);refine qW (zDf aw h0 iP hv.len hv.lt) ?_;refine R1.bJ λK k1 k2 k3 k4=>?_;refine R1.loop (λk A H1=>∃i:Nat,k=l.length-i/\i<=l.length/\Gr H H1/\kY less (l.take i) (l.drop i)=r0/\gU A.tm 0 1 9 v (.b less) v (jc A l.length i (A.nt=69/\A.dfr=[]))) ?_ l.length
  ⟨0,rfl,Nat.zero_le _,Fr.refl _,E0,?_⟩
 ·clear h0 h1 tm;rintro k A H1 ⟨i,rfl,hi,g1,hr,t0,t1,t9,t10,t11,A0,B0⟩;have b8:=hv.gr g1;refine qW (zDe aw t10 t11 A0) ?_;refine qE λKx Ky hx hy=>?_;refine kG (λhc=>hx ?_) (λhc=>hy ?_)
  ·clear hx hy Kx Ky;have D0:i<l.length:=aa;obtain⟨id,g,off,cells,rfl,hid,B2,Q0⟩:=b8.open aa;have ex:=aO D0;have S0:=List.drop_eq_getElem_cons D0;have Y2:=dK D0;generalize l[i]=x at ex S0 Y2;have Y0:=Q0 i x ex;have N2:=bw i;rw[S0,kY]at hr;refine qV ?_;refine R1.bJ λK2 q1 q2 q3 q4=>?_;refine qG (zDm aw t9 t11 A0 uL oG Mq GM (ixC D0) hid B2 (zDd Y0.all Y0.le iG)) λK hK=>?_;apply hK;refine R1.gen (λA3 H3=>Gr H1 H3/\H1.nx<H3.nx/\H3.get H1.nx=some (.arr (gpC x) 209 0 0)/\MC A3.tm 0 1 5 6 9 (.o (.sl id g off l.length 3)) (.b less) (.i .i64 (i:Int)) (.o (.ptr H1.nx 0 0 3)) (.o (.sl id g off l.length 3)) (jc A3 l.length i (A3.nt=69/\A3.dfr=[])))
    ⟨((Fr.refl _).new _).mod _ (.inl (ai _)),?_⟩ ?_
   ·exact qZ (zDi t0 t1 t9 t10 t11 A0 B0 iG)
   clear t0 t1 t9 t10 t11 A0 B0 A;rintro A H3 ⟨g3,n3,rx,t0,t1,t5,t6,t9,t10,t11,A0,B0⟩;have next:∀(A2:ag)(H2:Hp),Gr H3 H2->kY less (l.take (i+1)) (l.drop (i+1))=r0->slot A2.tm 0=slot A.tm 0->slot A2.tm 1=slot A.tm 1->slot A2.tm 9=slot A.tm 9->slot A2.tm 10=slot A.tm 10->slot A2.tm 11=slot A.tm 11->A2.nt=69->A2.dfr=[] ->
     K2 .normal A2 H2/\K2 (.exit 1) A2 H2:=by
    intro A2 H2 g2 hr s0 s1 s9 s10 s11 hn hd;have g2':Gr H H2:=g1.gr (g3.gr g2);rw[t0]at s0;rw[t1]at s1;rw[t9]at s9;rw[t10]at s10;rw[t11]at s11;refine⟨q1 _ _ ?_,q2 _ _ ?_⟩
    ·refine qW (zDd hn s11 N2) ?_;refine⟨l.length-(i+1),aa,i+1,rfl,D0,g2',hr,?_,?_,?_,?_,?_,?_,?_⟩
     ·simp only[an,Nat.reduceEqDiff,reduceIte,s0]
     ·simp only[an,Nat.reduceEqDiff,reduceIte,s1]
     ·simp only[an,Nat.reduceEqDiff,reduceIte,s9]
     ·simp only[an,Nat.reduceEqDiff,reduceIte,s10]
     ·simp only[an,Nat.reduceEqDiff,reduceIte]
     ·simp only[bE,hn]
     simp only[aS,hd]
    refine qW (zDd hn s11 N2) ?_;refine⟨l.length-(i+1),aa,i+1,rfl,D0,g2',hr,?_,?_,?_,?_,?_,?_,?_⟩
    ·simp only[an,Nat.reduceEqDiff,reduceIte,s0]
    ·simp only[an,Nat.reduceEqDiff,reduceIte,s1]
    ·simp only[an,Nat.reduceEqDiff,reduceIte,s9]
    ·simp only[an,Nat.reduceEqDiff,reduceIte,s10]
    ·simp only[an,Nat.reduceEqDiff,reduceIte]
    ·simp only[bE,hn]
    simp only[aS,hd]
   clear q1 q2;rw[<-Y2]at hr;refine R1.bJ λK3 p1 p2 p3 p4=>?_;refine qG (zDi aw t6 A0 rx n3 oG iG zM) λK hK=>?_;refine WE.con (uU H3 x) λw H4 g4 hw=>?_;subst hw;have rx4:H4.get H1.nx=some (.arr (gpC x) 209 0 0):=by rw[g4.get _ n3 aF];exact rx
   have n4:H1.nx<H4.nx:=ay n3 g4.nx;have g4':=g1.gr (g3.gr g4);cases hgp:BU x with
   |true=>
    rw[ad hgp]at hr;refine qS (zDd aw A0 t1) ?_;apply hK;cases less with
    |true=>rw[ad rfl]at hr;refine qY ?_;refine qW A0 ?_;exact p4 _ _ (q4 _ _ (k4 _ _ (fin 24 _ _ qp (qd B0) g4' hr)))
    |false=>
     rw[ab zA8]at hr;refine qY ?_;refine qG (zDi aw t6 A0 rx4 n4 oG iG zM) λK hK=>?_;refine WE.con (uU H4 x) λw H5 g5 hw=>?_;subst hw;have g35:Gr H3 H5:=g4.gr g5;have g5':Gr H H5:=g4'.gr g5;refine qS (zDd aw A0 hgp) ?_;apply hK;refine qY ?_;by_cases T5:i=0
     ·have c0:((0:Int)<(i:Int))=False:=bT aa;rw[T5,List.take_zero,ab (by exact zA8),<-T5]at hr;refine qW (zDe aw t5 A0 c0) ?_;refine qY ?_;refine qV ?_;exact p3 1 _ _ aE (next _ _ g35 hr qp qp qp qp qp (by simp only[bE,A0]) (qd B0)).2
     have c0:((0:Int)<(i:Int))=True:=cK aa;have hlt3:i-1<l.length:=aa;have ey:=aO hlt3;have hgpp:=Qd aa ey;generalize l[i-1]=y at ey hgpp;have N6:=Q0 (i-1) y ey;have j5:IntKind.i64.wrap ((i:Int)-1)=((i-1:Nat):Int):=by rw[aI aa aa];omega
     have hid5:id<H5.nx:=ay hid (g3.gr g35).nx;have hgr5:rowOf (H5.get id) g=some cells:=by rw[(g3.gr g35).get _ hid aF];exact B2
     rw[hgpp]at hr;refine qG (zDm aw t0 t5 A0 c0 j5 uL oG (ixC hlt3) hid5 hgr5 (zDe N6.all N6.le iG zM)) λK hK=>?_;refine WE.con (uU H5 y) λw H6 g6 hw=>?_;subst hw;have g36:Gr H3 H6:=g35.gr g6;have g6':Gr H H6:=g5'.gr g6;cases hgy:BU y with
     |true=>rw[hgy,ad rfl]at hr;refine qS (qA aw A0) ?_;apply hK;refine qY ?_;refine qW A0 ?_;exact p4 _ _ (q4 _ _ (k4 _ _ (fin 5 _ _ qp (qd B0) g6' hr)))
     |false=>rw[hgy,ab zA8]at hr;refine qS (qA aw A0) ?_;apply hK;refine qY ?_;refine qV ?_;exact p3 1 _ _ aE (next _ _ g36 hr qp qp qp qp qp (by simp only[bE,A0]) (qd B0)).2
   |false=>
    rw[ab (by rw[hgp];exact zA8)]at hr;refine qS (zDd aw A0 t1) ?_;apply hK;refine qY ?_;refine qG (zDi aw t6 A0 rx4 n4 oG iG zM) λK hK=>?_;refine WE.con (uU H4 x) λw H5 g5 hw=>?_;subst hw;have rx5:H5.get H1.nx=some (.arr (gpC x) 209 0 0):=by rw[g5.get _ n4 aF];exact rx4
    have n5:H1.nx<H5.nx:=ay n4 g5.nx;have g35:Gr H3 H5:=g4.gr g5;have g5':Gr H H5:=g4'.gr g5;refine qS (zDd aw A0 hgp) ?_;apply hK;refine qY ?_;refine qG (zDj aw t6 A0 rx5 n5 Av cB iG nh) λK hK=>?_;refine WE.eu (qC x.2.1) λH6 g6 nn6 e6=>?_;have rx6:H6.get H1.nx=some (.arr (gpC x) 209 0 0):=(e6 _).trans rx5;have n6:H1.nx<H6.nx:=by rw[nn6];exact n5
    have g36:Gr H3 H6:=g35.gr g6;have g6':Gr H H6:=g5'.gr g6;cases hnm:nmB x.2.1 with
    |false=>rw[ad hnm]at hr;refine qS (qA aw A0) ?_;apply hK;refine qY ?_;refine qW A0 ?_;exact p4 _ _ (q4 _ _ (k4 _ _ (fin 20 _ _ qp (qd B0) g6' hr)))
    |true=>
     rw[ab (by rw[hnm];decide)]at hr;refine qS (qA aw A0) ?_;apply hK;refine qY ?_;by_cases C5:x.1<1
     ·have c1:(x.1<1)=True:=cK C5;rw[ad (.inl C5)]at hr;refine qW (zDj aw t6 A0 rx6 n6 Au cA iG c1) ?_;refine qY ?_;refine qW A0 ?_;exact p4 _ _ (q4 _ _ (k4 _ _ (fin 21 _ _ qp (qd B0) g6' hr)))
     have c1:(x.1<1)=False:=bT C5;by_cases E4:(99:Int)<x.1
     ·have c2:((99:Int)<x.1)=True:=cK E4;rw[ad (.inr E4)]at hr;refine qW (zDk aw t6 A0 rx6 n6 Au cA iG c1 c2) ?_;refine qY ?_;refine qW A0 ?_;exact p4 _ _ (q4 _ _ (k4 _ _ (fin 21 _ _ qp (qd B0) g6' hr)))
     have c2:((99:Int)<x.1)=False:=bT E4;rw[ab (λh=>h.elim C5 E4)]at hr;refine qW (zDk aw t6 A0 rx6 n6 Au cA iG c1 c2) ?_;refine qY ?_;refine qW A0 ?_;refine p1 _ _ ?_;have hid6:id<H6.nx:=ay hid (g3.gr g36).nx;have hgr6:rowOf (H6.get id) g=some cells:=by rw[(g3.gr g36).get _ hid aF];exact B2
     generalize hrb:WX (l.take i) x.2.1=rb at hr;have W6:(l.take i).length=i:=by rw[dY];omega
     refine qG (zDi aw t0 t5 A0 uL iP (slH (sK D0)) hid6) λK hK=>?_;apply hK;refine R1.bJ λK4 u1 u2 u3 u4=>?_;refine R1.loop (λk A2 H2=>∃j:Nat,k=i-j/\j<=i/\Gr H6 H2/\WX ((l.take i).drop j) x.2.1=rb/\wy A2.tm 0 1 6 9 (.o (.sl id g off l.length 3)) (.b less) (.o (.ptr H1.nx 0 0 3)) (.o (.sl id g off l.length 3)) (jc A2 l.length i (pF A2 51 52 53 (.o (.sl id g off i 3)) (.i .i64 (i:Int)) (.i .i64 (j:Int)) 69 []))) ?_ i
      ⟨0,rfl,Nat.zero_le _,Fr.refl _,by rw[List.drop_zero];exact hrb,?_⟩
     ·rintro k A2 H2 ⟨j,rfl,hj,g2,O0,s0,s1,s6,s9,s10,s11,s51,s52,s53,hn,hd⟩;have rx2:H2.get H1.nx=some (.arr (gpC x) 209 0 0):=by rw[g2.get _ n6 aF];exact rx6
      have n2:H1.nx<H2.nx:=ay n6 g2.nx;have hid2:id<H2.nx:=ay hid6 g2.nx;have hgr2:rowOf (H2.get id) g=some cells:=by rw[g2.get _ hid6 aF];exact hgr6
      have g2':Gr H H2:=g6'.gr g2;refine qW (zDe aw s52 s53 hn) ?_;refine qE λKx Ky hx hy=>?_;refine kG (λhc=>hx ?_) (λhc=>hy ?_)
      ·clear hx hy Kx Ky;have hjt:j<i:=aa;have hjt':j<(l.take i).length:=aa;have hdr2:(l.take i).drop j=(l.take i)[j]::(l.take i).drop (j+1):=List.drop_eq_getElem_cons hjt';have ey:l[j]?=some (l.take i)[j]:=by rw[List.getElem_take];exact aO aa
       generalize(l.take i)[j]=y at hdr2 ey
       have N6:=Q0 j y ey;have hw4:=bw j;rw[hdr2,WX,List.any_cons]at O0;refine qV ?_;refine R1.bJ λK5 w1 w2 w3 w4=>?_;refine qG (zDm aw s51 s53 hn uL oG Mq GM (ixC hjt) hid2 hgr2 (zDd N6.all N6.le iG)) λK hK=>?_;apply hK;refine R1.gen (λA3 H7=>Gr H2 H7/\H2.nx<H7.nx/\H7.get H2.nx=some (.arr (gpC y) 209 0 0)/\MC A3.tm 8 0 1 6 9 (.o (.ptr H2.nx 0 0 3)) (.o (.sl id g off l.length 3)) (.b less) (.o (.ptr H1.nx 0 0 3)) (.o (.sl id g off l.length 3)) (jc A3 l.length i (pF A3 51 52 53 (.o (.sl id g off i 3)) (.i .i64 (i:Int)) (.i .i64 (j:Int)) 69 [])))
        ⟨((Fr.refl _).new _).mod _ (.inl (ai _)),?_⟩ ?_
       ·exact qZ (zDm s0 s1 s6 s9 s10 s11 s51 s52 s53 hn hd iG)
       clear s0 s1 s6 s9 s10 s11 s51 s52 s53 hn hd A2;rintro A2 H7 ⟨g7,n7,ry,s8,s0,s1,s6,s9,s10,s11,s51,s52,s53,hn,hd⟩;have rx7:H7.get H1.nx=some (.arr (gpC x) 209 0 0):=by rw[g7.get _ n2 aF];exact rx2
       have n17:H1.nx<H7.nx:=ay n2 g7.nx;have g7':Gr H H7:=g2'.gr g7;cases cs:(y.2.1==x.2.1)with
       |true=>rw[cs,Bool.true_or]at O0;rw[<-O0,ad rfl]at hr;refine qW (zDl aw s8 s6 hn ry n7 rx7 n17 iG Av cB) ?_;refine qE λKx Ky hx hy=>?_;rw[iN,cs];refine hx ?_;refine qW hn ?_;exact w4 _ _ (u4 _ _ (q4 _ _ (k4 _ _ (fin 22 _ _ qp (by simp only[aS,hd]) g7' hr))))
       |false=>
        rw[cs,Bool.false_or]at O0;refine qW (zDl aw s8 s6 hn ry n7 rx7 n17 iG Av cB) ?_;refine qE λKx Ky hx hy=>?_;rw[iN,cs];refine hy ?_;refine qW hn ?_;refine w1 _ _ ?_;refine qW (zDd hn s53 hw4) ?_;refine⟨i-(j+1),aa,j+1,rfl,hjt,g2.gr g7,O0,?_,?_,?_,?_,?_,?_,?_,?_,?_,?_,?_⟩
        ·simp only[an,Nat.reduceEqDiff,reduceIte,s0]
        ·simp only[an,Nat.reduceEqDiff,reduceIte,s1]
        ·simp only[an,Nat.reduceEqDiff,reduceIte,s6]
        ·simp only[an,Nat.reduceEqDiff,reduceIte,s9]
        ·simp only[an,Nat.reduceEqDiff,reduceIte,s10]
        ·simp only[an,Nat.reduceEqDiff,reduceIte,s11]
        ·simp only[an,Nat.reduceEqDiff,reduceIte,s51]
        ·simp only[an,Nat.reduceEqDiff,reduceIte,s52]
        ·simp only[an,Nat.reduceEqDiff,reduceIte]
        ·simp only[bE,hn]
        simp only[aS,hd]
      clear hx hy Kx Ky;have hje:(l.take i).drop j=[]:=Gy aa;rw[hje]at O0;rw[<-O0,ab (by exact zA8)]at hr;refine qW hn ?_;refine u2 _ _ ?_;cases less with
      |false=>rw[ab (by exact zA8)]at hr;refine qW (zDd aw s1 hn) ?_;refine qY ?_;refine qW hn ?_;exact(next _ _ (g36.gr g2) hr (by simp only[an,Nat.reduceEqDiff,reduceIte,s0,t0]) (by simp only[an,Nat.reduceEqDiff,reduceIte,s1,t1]) (by simp only[an,Nat.reduceEqDiff,reduceIte,s9,t9]) (by simp only[an,Nat.reduceEqDiff,reduceIte,s10,t10]) (by simp only[an,Nat.reduceEqDiff,reduceIte,s11,t11]) (by simp only[bE,hn]) (by simp only[aS,hd])).1
      |true=>
       cases hbr:x.2.2 with
       |true=>rw[hbr,ad (by rfl)]at hr;refine qW (zDk aw s1 s6 hn rx2 n2 iG Aw sf hbr) ?_;refine qY ?_;refine qW hn ?_;exact q4 _ _ (k4 _ _ (fin 24 _ _ qp (by simp only[aS,hd]) g2' hr))
       |false=>rw[hbr,ab (by exact zA8)]at hr;refine qW (zDk aw s1 s6 hn rx2 n2 iG Aw sf hbr) ?_;refine qY ?_;refine qW hn ?_;exact(next _ _ (g36.gr g2) hr (by simp only[an,Nat.reduceEqDiff,reduceIte,s0,t0]) (by simp only[an,Nat.reduceEqDiff,reduceIte,s1,t1]) (by simp only[an,Nat.reduceEqDiff,reduceIte,s9,t9]) (by simp only[an,Nat.reduceEqDiff,reduceIte,s10,t10]) (by simp only[an,Nat.reduceEqDiff,reduceIte,s11,t11]) (by simp only[bE,hn]) (by simp only[aS,hd])).1
     simp only[an,mE,Nat.reduceEqDiff,reduceIte,bE,aS,t0,t1,t6,t9,t10,t11,A0,B0,and_self,true_and];exact⟨rfl,trivial⟩
  clear hx hy Kx Ky;have U2:i=l.length:=aa;rw[U2,dD,kY]at hr;refine qW A0 ?_;refine k2 _ _ ?_;refine qW A0 ?_;exact fin 0 _ _ qp (qd B0) g1 hr
 simp only[an,mE,Nat.reduceEqDiff,reduceIte,bE,aS,h0,h1,and_self,true_and];exact⟨rfl,trivial⟩
abbrev Nm:=List Gp×List Gp
def te(x:Nm):Int:=
 if(24:Int)<x.1.length\/(24:Int)<x.2.length then 3 else if x.1.length=0 then 5 else
 if kY false [] x.1≠0 then kY false [] x.1 else if kY true [] x.2≠0 then kY true [] x.2 else
 if(0<x.2.length/\HF x.1=true)then 24 else 0
def FN(H:Hp)(u w:AC)(x:Nm)(hu:jA H u x.1)(hw:jA H w x.2):
  Con E2 141 [.agg [u,w]] H (λ_=>False) λr _=>r=.one (.i .i64 (te x)):=by
 refine Con.iM (λH=>jA H u x.1) hu (λH=>jA H w x.2) hw λH hu hw=>?_;refine C1.jf 40 [.tmp 2] Tryz.func141 λtm h0=>?_;have fin:=Ax E2 H 2 (te x);generalize E0:te x=r0 at fin;unfold te at E0;refine qG (qA aw h0) λK hK=>?_;apply hK;refine R1.gen (λA1 H1=>Gr H H1/\H.nx<H1.nx/\H1.get H.nx=some (.arr [u,w] 56 0 0)/\ea A1 H.nx (A1.nt=40/\A1.dfr=[]))
  ⟨(Fr.refl _).new _,?_⟩ ?_
 ·exact qZ h0
 rintro A1 H1 ⟨g1,n1,rx,t1,A0,B0⟩;clear h0 tm;have V2:=hu.gr g1;have I4:=hw.gr g1;by_cases h24:(24:Int)<x.1.length
 ·have c24:((24:Int)<x.1.length)=True:=cK h24;rw[ad (.inl h24)]at E0;refine qW (zDl aw t1 A0 rx n1 jF kH iP V2.len V2.lt c24) ?_;refine qY ?_;refine qW A0 ?_;exact fin 3 _ _ qp (qd B0) g1 E0
 have c24:((24:Int)<x.1.length)=False:=bT h24;by_cases h25:(24:Int)<x.2.length
 ·have c25:((24:Int)<x.2.length)=True:=cK h25;rw[ad (.inr h25)]at E0;refine qW (zDm aw t1 A0 rx n1 jF qh kH iP V2.len V2.lt (zDe I4.len I4.lt c24 c25)) ?_;refine qY ?_;refine qW A0 ?_;exact fin 3 _ _ qp (qd B0) g1 E0
 have c25:((24:Int)<x.2.length)=False:=bT h25;rw[ab (λh=>h.elim h24 h25)]at E0;refine qW (zDm aw t1 A0 rx n1 jF qh kH iP V2.len V2.lt (zDe I4.len I4.lt c24 c25)) ?_;refine qY ?_;by_cases hz:x.1.length=0
 ·have cz:((x.1.length:Int)==0)=true:=by rw[hz];rfl
  rw[ad hz]at E0;refine qW (zDl aw t1 A0 rx n1 jF kH iP V2.len V2.lt cz) ?_;refine qY ?_;refine qW A0 ?_;exact fin 5 _ _ qp (qd B0) g1 E0
 have cz:((x.1.length:Int)==0)=false:=aW aa;rw[ab hz]at E0;refine qW (zDl aw t1 A0 rx n1 jF kH iP V2.len V2.lt cz) ?_;refine qY ?_;refine R1.cq ?_;refine qG (zDi aw t1 A0 rx n1 jF kH tb) λK hK=>?_;refine WE.con (rh H1 u x.1 false V2 aa) λr H2 g2 hr=>?_;subst hr;have rx2:H2.get H.nx=some (.arr [u,w] 56 0 0):=by rw[g2.get _ n1 aF];exact rx
 have n2:H.nx<H2.nx:=ay n1 g2.nx;have g2':=g1.gr g2;refine qS (qA aw A0) ?_;apply hK;generalize kY false [] x.1=e1 at E0 |-;by_cases l7:e1=0
 case neg=>have ce:(e1 != 0)=true:=bne_iff_ne.2 l7;rw[ad l7]at E0;refine qW (zDd aw A0 ce) ?_;refine qE λKx Ky hx hy=>?_;refine kG (λ_=>hx ?_) (λh=>absurd ce (by simpa using h));refine qW A0 ?_;exact fin e1 _ _ qp (qd B0) g2' E0
 rw[ab (λh=>h l7)]at E0;refine qW (zDd aw A0 l7) ?_;refine qY ?_;refine R1.cq ?_;refine qG (zDi aw t1 A0 rx2 n2 qh kH tb) λK hK=>?_;refine WE.con (rh H2 w x.2 true (I4.gr g2) aa) λr H3 g3 hr=>?_;subst hr;have rx3:H3.get H.nx=some (.arr [u,w] 56 0 0):=by rw[g3.get _ n2 aF];exact rx2
 have n3:H.nx<H3.nx:=ay n2 g3.nx;have g3':=g2'.gr g3;have hu3:=(V2.gr g2).gr g3;have j5:=(I4.gr g2).gr g3;refine qS (qA aw A0) ?_;apply hK;generalize kY true [] x.2=e2 at E0 |-;by_cases he2:e2=0
 case neg=>have ce:(e2 != 0)=true:=bne_iff_ne.2 he2;rw[ad he2]at E0;refine qW (zDd aw A0 ce) ?_;refine qE λKx Ky hx hy=>?_;refine kG (λ_=>hx ?_) (λh=>absurd ce (by simpa using h));refine qW A0 ?_;exact fin e2 _ _ qp (qd B0) g3' E0
 rw[ab (λh=>h he2)]at E0;refine qW (zDd aw A0 he2) ?_;refine qY ?_;refine R1.cq ?_;by_cases hp:0<x.2.length
 ·have cp:((0:Int)<x.2.length)=True:=cK aa;refine qG (zDm aw t1 A0 rx3 n3 jF qh kH iP hu3.lt j5.len (zDd j5.lt cp Pu)) λK hK=>?_;refine WE.con (Lc H3 u x.1 hu3 aa) λr H4 g4 hr=>?_;subst hr;have g4':=g3'.gr g4;refine qS (qA aw A0) ?_;apply hK;cases hb:HF x.1 with
  |true=>rw[ad ⟨hp,hb⟩]at E0;refine qY ?_;refine qW A0 ?_;exact fin 24 _ _ qp (qd B0) g4' E0
  |false=>rw[ab (λh=>by rw[hb]at h;cases h.2)]at E0;refine qY ?_;refine qW A0 ?_;exact fin 0 _ _ qp (qd B0) g4' E0
 have cp:((0:Int)<x.2.length)=False:=bT aa;rw[ab (λh=>hp h.1)]at E0;refine qW (zDm aw t1 A0 rx3 n3 jF qh kH iP hu3.lt j5.len (qA j5.lt cp)) ?_;refine qY ?_;refine qW A0 ?_;exact fin 0 _ _ qp (qd B0) g3' E0
def Su:aq prog 67=true:=ae
def uH{E:Env}{s s':Tmp}{t t':TypeId}{A:ag}{H H2:Hp}{e:ax}{id id' g g':Nat}{c c':AC}(ht:loadT E.P t=some (false,1))(ht':loadT E.P t'=some (false,1))(he:e=.normal\/e=.ret)(hd:closeAll H A.dfr=some H2)
  (hs:slot A.tm s=.one (.o (.ptr id g 0 1))) (hs':slot A.tm s'=.one (.o (.ptr id' g' 0 1))) (hg:rowOf (H2.get id) g=some [c]) (R2:rowOf (H2.get id') g'=some [c']):
  aH E [.cell s t,.cell s' t'] (e,A,H)=.ok [(.tup [(false,[c]),(false,[c'])],H2)]:=by
 have one:∀(s:Tmp)(t:TypeId)(id g:Nat)(c:AC),loadT E.P t=some (false,1)->slot A.tm s=.one (.o (.ptr id g 0 1))->rowOf (H2.get id) g=some [c]->od E.P (.cell s t) A.tm H2=some (false,[c]):=λs t id g c ht hs hg=>by
  have e0:od E.P (.cell s t)=match loadT E.P t with|some p=>λtm h=>aB (tm.get s) none λv=>aj.rec (motive:=λ_=>Option (Bool×List AC)) (λv _=>jU v) (λ_=>none) (λ_ _=>none) (λ_ _=>none) (λ_=>none) (dB h p.1 p.2 v)|none=>λ_ _=>none:=rfl
  rw[e0,ht];show aB (A.tm.get s) none (λv=>aj.rec (motive:=λ_=>Option (Bool×List AC)) (λv _=>jU v) (λ_=>none) (λ_ _=>none) (λ_ _=>none) (λ_=>none) (dB H2 false 1 v))=_;rw[Fi hs];show aj.rec (motive:=λ_=>Option (Bool×List AC)) (λv _=>jU v) (λ_=>none) (λ_ _=>none) (λ_ _=>none) (λ_=>none) (dB H2 false 1 (.one (.o (.ptr id g 0 1))))=_;rw[ji,hg,yy (ai _) (by simp)];rfl
 have key:(aB (closeAll H A.dfr) (R.bad "marks") λh2=>aB (cI E.P [.cell s t,.cell s' t'] A.tm h2) (.bad "results") λl=>.ok [(fa l,h2)])=.ok [(.tup [(false,[c]),(false,[c'])],H2)]:=by
  rw[hd];have hr:cI E.P [.cell s t,.cell s' t'] A.tm H2=some [(false,[c]),(false,[c'])]:=by show aB (od E.P (.cell s t) A.tm H2) none (λx=>aB (aB (od E.P (.cell s' t') A.tm H2) none λx=>aB (some []) none λl=>some (x::l)) none λl=>some (x::l))=_;rw[one s t id g c ht hs hg,one s' t' id' g' c' ht' hs' R2];rfl
  show aB (cI E.P [.cell s t,.cell s' t'] A.tm H2) (R.bad "results") (λl=>R.ok [(fa l,H2)])=_
  rw[hr];rfl
 rcases he with rfl|rfl
 ·exact key
 exact key
def KB:List (Pr×Int)->List UInt8->Int×Int
 |[],_=>(0,11)
 |y::ys,s=>if y.1.1=s then(y.2,0)else KB ys s
def sW(n:List UInt8)(us:List Pr)(s:List UInt8):Int×Int:=if aR n us≠0 then(0,aR n us)else KB (yv 1 us) s
def Rr(H:Hp)(n:List UInt8)(u:AC)(us:List Pr)(s:List UInt8)(hu:SlP H u us):
  Con E2 67 [.agg [.o (.str n),u],.one (.o (.str s))] H (λ_=>False) λr _=>r=.tup [(false,[.i .i64 (sW n us s).1]),(false,[.i .i64 (sW n us s).2])]:=by
 refine Con.qw (λH=>SlP H u us) hu λH hu=>?_;refine C1.fK 23 [.cell 4 3,.cell 5 35] Tryz.func67 λtm h0 h1=>?_;refine qG (zDf aw h0 h1 wx xk) λK hK=>?_;apply hK;have J3:∀id∈(AV.one u).ids,id<H.nx:=hu.lt;refine R1.gen (λA1 H1=>Gr H H1/\H.nx+3<H1.nx/\H1.get H.nx=some (.arr [.o (.str n),u] 51 0 0)/\H1.get (H.nx+1)=some (.arr [.o (.str s)] 9 0 0)/\H1.get (H.nx+1+1)=some (.arr [.i .i64 0] 3 0 0)/\H1.get (H.nx+1+1+1)=some (.arr [.i .i64 0] 35 0 0)/\iB A1 H.nx (slot A1.tm 3=.one (.o (.ptr (H.nx+1) 0 0 1))/\jb A1 (H.nx+1+1) (eK A1 5 (.o (.ptr (H.nx+1+1+1) 0 0 1)) 23 [])))
  ⟨((((Fr.refl _).new _).new _).new _).new _,?_⟩ ?_
 ·refine qT ?_;rw[bu (by show H.nx<H.nx+1+1+1;omega),bu (by show H.nx<H.nx+1+1;omega),bu (by show H.nx<H.nx+1;omega)];exact aJ rfl
 rintro A1 H1 ⟨g1,n1,r1,r2,r4,r5,t2,t3,t4,t5,A0,B0⟩;clear h0 h1 tm;have V2:SlP H1 u us:=hu.gr g1;obtain⟨c1,hc1⟩:=dZ H.nx;obtain⟨c2,o8⟩:∃c,c=H.nx+1:=⟨_,rfl⟩;obtain⟨c4,hc4⟩:∃c,c=H.nx+1+1:=⟨_,rfl⟩;obtain⟨c5,hc5⟩:∃c,c=H.nx+1+1+1:=⟨_,rfl⟩;rw[<-hc5]at r5 t5;rw[<-hc4]at r4 t4;rw[<-o8]at r2 t3;rw[<-hc1]at r1 t2 J3;have o12:c1<c2:=aa;have o24:c2<c4:=aa;have o45:c4<c5:=aa;have o5:c5<H1.nx:=aa;have Z2:H.nx<=c1:=aa;clear hc5 hc4 o8 n1;have l1:c1<H1.nx:=aa;have l2:c2<H1.nx:=aa;have l4:c4<H1.nx:=aa;have fin:∀(e:ax)(A:ag)(H2 H3:Hp)(v w:Int),(e=.normal\/e=.ret)->closeAll H2 A.dfr=some H3->Gr H H3->slot A.tm 4=.one (.o (.ptr c4 0 0 1))->slot A.tm 5=.one (.o (.ptr c5 0 0 1))->H3.get c4=some (.arr [.i .i64 v] 3 0 0)->H3.get c5=some (.arr [.i .i64 w] 35 0 0)->(v,w)=sW n us s ->
   ∃w H4,aH E2 [.cell 4 3,.cell 5 35] (e,A,H2)=.ok [(w,H4)]/\Gr H H4/\∀_:List Nat,w=.tup [(false,[.i .i64 (sW n us s).1]),(false,[.i .i64 (sW n us s).2])]:=λe A H2 H3 v w he hd hg hs hs' hr T3 hv=>
  ⟨_,H3,uH (c:=.i .i64 v) (c':=.i .i64 w) cA vf he hd hs hs' (by rw[hr];exact de (ai _) (ai _)) (by rw[T3];exact de (ai _) (ai _)),hg,λ_=>by rw[<-hv]⟩
 generalize E0:sW n us s=r0 at fin;unfold sW at E0;repeat refine R1.aM ?_
 refine qG (zDh aw t2 A0 r1 l1 gM uz) λK hK=>?_;refine WE.con (rW H1 n u us V2) λv H2 g2 hv=>?_;subst hv;have r1:H2.get c1=some (.arr [.o (.str n),u] 51 0 0):=by rw[g2.get _ l1 aF];exact r1
 have r2:H2.get c2=some (.arr [.o (.str s)] 9 0 0):=by rw[g2.get _ l2 aF];exact r2
 have r4:H2.get c4=some (.arr [.i .i64 0] 3 0 0):=by rw[g2.get _ l4 aF];exact r4
 have r5:H2.get c5=some (.arr [.i .i64 0] 35 0 0):=by rw[g2.get _ o5 aF];exact r5
 have o5:c5<H2.nx:=ay o5 g2.nx;have l1:c1<H2.nx:=aa;have l2:c2<H2.nx:=aa;have l4:c4<H2.nx:=aa;have J6:=V2.gr g2;have g2:=g1.gr g2;have hlen:=@kZ n us;refine qS (qA aw A0) ?_;apply hK;generalize aR n us=e0 at E0 hlen |-;by_cases S1:e0=0
 case neg=>
  have ce:(e0 != 0)=true:=bne_iff_ne.2 S1;rw[ad S1]at E0;refine qW (zDd aw A0 ce) ?_;refine qE λKx Ky hx hy=>?_;refine kG (λ_=>hx ?_) (λh=>absurd ce (by simpa using h));repeat' first|refine R1.ret ?_|refine R1.exit ?_|refine R1.skip ?_|refine R1.Bu ?_|refine R1.tT ?_|refine R1.aM ?_|refine R1.cq ?_|refine R1.oU ?_|((first|refine R1.Lk λK hK=>?_|refine R1.wY λK hK=>?_|refine R1.Ll ae λK hK=>?_|refine R1.JR ae λK hK=>?_);simp only[qB,bc,Nat.reduceLT,Nat.reduceEqDiff,Nat.reduceLeDiff,reduceIte,Nat.reduceAdd,Nat.reduceSub,Nat.reduceMul,Int.reduceLT,Int.reduceLE,Int.reduceBEq,aw,t4,t5,A0,BA,hU,r4,r5,l4,o5,az (Nat.ne_of_gt o45)];apply hK;clear hK K)
  exact fin .ret _ _ _ 0 e0 (.inr rfl) (by simp only[aS,B0];rfl) ((g2.mod _ (.inl aa)).mod _ (.inl aa)) (by simp only[an,Nat.reduceEqDiff,reduceIte,t4]) (by simp only[an,Nat.reduceEqDiff,reduceIte,t5]) (by rw[az aa];exact ao rfl) (ao rfl) E0
 rw[ab (λh=>h S1)]at E0;have hlen:=hlen S1;refine qW (zDd aw A0 S1) ?_;refine qY ?_;refine R1.cq ?_;repeat refine R1.aM ?_
 refine qG (zDh aw t2 A0 r1 l1 gM Hx) λK hK=>?_;refine WE.con (Et H2 (.o (.str n)) u J6.lt) λv H5 g5⟨hv,Z4,hln⟩=>?_;subst hv;refine qS (qA aw A0) ?_;apply hK;refine R1.lp (λA4=>slot A4.tm 3=.one (.o (.ptr c2 0 0 1))/\jb A4 c4 (kO A4 5 15 (.o (.ptr c5 0 0 1)) (.o (.clo 115 [(H2.nx,0,0,2)])) 23 []))
  ⟨by simp only[an,Nat.reduceEqDiff,reduceIte,t3],by simp only[an,Nat.reduceEqDiff,reduceIte,t4],by simp only[an,Nat.reduceEqDiff,reduceIte,t5],by simp only[an,Nat.reduceEqDiff,reduceIte],by simp only[bE,A0],by simp only[aS,B0]⟩ ?_
 clear t2 t3 t4 t5 A0 B0 A1;rintro A ⟨t3,t4,t5,t15,A0,B0⟩;have gg:Gr H H5:=g2.gr g5;have r2:H5.get c2=some (.arr [.o (.str s)] 9 0 0):=by rw[g5.get _ l2 aF];exact r2
 have r4:H5.get c4=some (.arr [.i .i64 0] 3 0 0):=by rw[g5.get _ l4 aF];exact r4
 have r5:H5.get c5=some (.arr [.i .i64 0] 35 0 0):=by rw[g5.get _ o5 aF];exact r5
 have R5:SlP H5 u us:=J6.gr g5;obtain⟨il,w8⟩:=dZ H2.nx;rw[<-w8]at Z4 hln t15 o5 l1 l2 l4;clear w8;generalize hys:yv 1 us=ys at E0;have hyl:ys.length<=us.length:=by rw[<-hys];exact Mz 1 us
 refine R1.bJ λK k1 k2 k3 k4=>?_;refine R1.range (σ:=Unit) (g:=115) (caps:=[(il,0,0,2)]) (n:=ys.length) (ar:=yA ys) (D:=DL il u) (by simp only[Ar,t15]) Ct (λ_=>rfl)
  (Es H5 il (.o (.str n)) u us hln Z4 R5 aa ys hys) (λk hk=>by
   rcases hk with h|h
   ·omega
   exact sI (J3 k h) aa) (by rw[A0];rfl) (λi _=>VQ ys i)
  (λi _ H6=>H6.get c2=some (.arr [.o (.str s)] 9 0 0)/\H6.get c4=some (.arr [.i .i64 0] 3 0 0)/\H6.get c5=some (.arr [.i .i64 0] 35 0 0)/\KB (ys.drop i) s=r0/\H5.nx<=H6.nx)
  (λe _ H6=>e=.ret/\H6.get c4=some (.arr [.i .i64 r0.1] 3 0 0)/\H6.get c5=some (.arr [.i .i64 r0.2] 35 0 0)/\H5.nx<=H6.nx)
  (λ_ k=>k=c4\/k=c5) ?_ ?_ ?_ () ?_ ?_ ?_ ?_
 ·rintro i _ H6 H7 ⟨a1,a2,a3,a4,a5⟩ hs;exact⟨by rw[hs.get _ aa aa];exact a1,by rw[hs.get _ aa aa];exact a2,by rw[hs.get _ aa aa];exact a3,a4,aD a5 hs.nx⟩
 ·rintro e _ H6 H7 ⟨a1,a2,a3,a5⟩ hs;exact⟨a1,by rw[hs.get _ aa aa];exact a2,by rw[hs.get _ aa aa];exact a3,aD a5 hs.nx⟩
 ·rintro i _ H6 k ⟨a1,a2,a3,a4,a5⟩ hk;have:k<H5.nx/\c1<k/\k<il:=by rcases hk with rfl|rfl<;>omega
  refine⟨aa,aa,aa,λh=>?_⟩;rcases h with h|h
  ·omega
  have:=J3 k h;omega
 ·intro H6 g6 n6;exact⟨by rw[g6.get _ aa aF];exact r2,by rw[g6.get _ aa aF];exact r4,by rw[g6.get _ aa aF];exact r5,by rw[List.drop_zero];exact E0,g6.nx⟩
 ·rintro i _ H6 hi ⟨a1,a2,a3,a4,a5⟩ n6;have hy:=aO hi;have S0:=List.drop_eq_getElem_cons hi;generalize ys[i]=y at hy S0;rw[S0,KB]at a4;rw[VP hy];obtain⟨x,yval⟩:=y;refine R1.lp (λA7=>slot A7.tm 3=.one (.o (.ptr c2 0 0 1))/\jb A7 c4 (slot A7.tm 5=.one (.o (.ptr c5 0 0 1))/\slot A7.tm 16=.agg (prC x)/\eK A7 17 (.i .i64 yval) 23 [])) ⟨?_,?_,?_,?_,?_,A0,rfl⟩ ?_
  ·show slot ((A.tm.set 16 _).set 17 _) 3=_;simp only[cJ,Nat.reduceEqDiff,reduceIte,t3]
  ·show slot ((A.tm.set 16 _).set 17 _) 4=_;simp only[cJ,Nat.reduceEqDiff,reduceIte,t4]
  ·show slot ((A.tm.set 16 _).set 17 _) 5=_;simp only[cJ,Nat.reduceEqDiff,reduceIte,t5]
  ·show slot ((A.tm.set 16 _).set 17 _) 16=_;simp only[cJ,Nat.reduceEqDiff,reduceIte]
  ·show slot ((A.tm.set 16 _).set 17 _) 17=_;simp only[cJ,Nat.reduceEqDiff,reduceIte]
  rintro A7 ⟨u3,u4,u5,u16,u17,unt,udf⟩;refine qW (zDh aw u16 u17 unt pt sF fF) ?_;refine⟨rfl,((Fr.refl _).new _).mod _ (.inl (ai _)),λH8 n8 s8=>?_⟩;have gu:H8.get H6.nx=some (.arr (prC x) 133 0 0):=by rw[s8.get _ (by show H6.nx<H6.nx+1;omega) aa];exact ao rfl
  have keep:∀k,k<H5.nx->H8.get k=H6.get k:=λk hk=>by rw[s8.get _ (by show k<H6.nx+1;omega) aa,az aa,bu aa]
  have n8':H8.nx=H6.nx+1:=n8;have b2:H8.get c2=some (.arr [.o (.str s)] 9 0 0):=(keep c2 aa).trans a1;have b4:H8.get c4=some (.arr [.i .i64 0] 3 0 0):=(keep c4 aa).trans a2;have b5:H8.get c5=some (.arr [.i .i64 0] 35 0 0):=(keep c5 aa).trans a3;have lu:H6.nx<H8.nx:=aa;have m2:c2<H8.nx:=aa;have m4:c4<H8.nx:=aa;have m5:c5<H8.nx:=aa;refine R1.mh λK2 p1 p2 p3 p4=>?_;repeat refine R1.aM ?_
  by_cases Y5:x.1=s
  ·rw[ad Y5]at a4;have cs:=beq_iff_eq.2 Y5;refine qW (zDk aw u3 unt gu lu b2 m2 cF cB fF) ?_;refine qE λKx Ky hx hy=>?_;rw[iN,cs];refine hx ?_;repeat' first|refine R1.ret ?_|refine R1.exit ?_|refine R1.skip ?_|refine R1.Bu ?_|refine R1.tT ?_|refine R1.aM ?_|refine R1.cq ?_|refine R1.oU ?_|((first|refine R1.Lk λK hK=>?_|refine R1.wY λK hK=>?_|refine R1.Ll ae λK hK=>?_|refine R1.JR ae λK hK=>?_);simp only[qB,bc,Nat.reduceLT,Nat.reduceEqDiff,Nat.reduceLeDiff,reduceIte,Nat.reduceAdd,Nat.reduceSub,Nat.reduceMul,Int.reduceLT,Int.reduceLE,Int.reduceBEq,aw,u4,u5,unt,BA,hU,b4,b5,m4,m5,az (Nat.ne_of_gt o45)];apply hK;clear hK K)
   refine p4 _ _ ⟨by simp only[aS,udf],((Fr.refl _).mod _ (.inr (.inl (.inl rfl)))).mod _ (.inr (.inl (.inr rfl))),(),λh=>(by cases h),λ_=>⟨rfl,?_,?_,by show H5.nx<=H8.nx;omega⟩,λk hk=>.inl hk⟩
   ·rw[az aa,<-a4];exact ao rfl
   rw[<-a4];exact ao rfl
  rw[ab Y5]at a4;have cs:(x.1==s)=false:=aW Y5;refine qW (zDk aw u3 unt gu lu b2 m2 cF cB fF) ?_;refine qE λKx Ky hx hy=>?_;rw[iN,cs];refine hy ?_;refine qV ?_;refine p1 _ _ ⟨by simp only[aS,udf],Fr.refl _,(),λ_=>⟨b2,b4,b5,a4,aa⟩,λh=>absurd rfl h,λk hk=>.inl hk⟩
 ·rintro s' H6 ⟨a1,a2,a3,a4,a5⟩ n6 hd6 hf6 M6;have g6:Gr H H6:=gg.then hf6 λk hk=>.inl (by rcases hk with rfl|rfl<;>omega);have m4:c4<H6.nx:=aa;have m5:c5<H6.nx:=aa;rw[dD,KB]at a4;refine k1 _ _ ?_;refine R1.lp (λA7=>jb A7 c4 (slot A7.tm 5=.one (.o (.ptr c5 0 0 1))/\A7.nt=23/\A7.dfr=[H5.nx])) ⟨t4,t5,A0,by show H5.nx::A.dfr=_;rw[B0]⟩ ?_;rintro A7 ⟨u4,u5,unt,udf⟩;repeat' first|refine R1.ret ?_|refine R1.exit ?_|refine R1.skip ?_|refine R1.Bu ?_|refine R1.tT ?_|refine R1.aM ?_|refine R1.cq ?_|refine R1.oU ?_|((first|refine R1.Lk λK hK=>?_|refine R1.wY λK hK=>?_|refine R1.Ll ae λK hK=>?_|refine R1.JR ae λK hK=>?_);simp only[qB,bc,Nat.reduceLT,Nat.reduceEqDiff,Nat.reduceLeDiff,reduceIte,Nat.reduceAdd,Nat.reduceSub,Nat.reduceMul,Int.reduceLT,Int.reduceLE,Int.reduceBEq,aw,u4,u5,unt,BA,hU,a2,a3,m4,m5,az (Nat.ne_of_gt o45)];apply hK;clear hK K)
  refine fin .ret _ _ _ 0 11 (.inr rfl) (by simp only[aS,udf];exact fg (by rw[az aa,az aa];exact hd6)) (((g6.mod _ (.inl aa)).mod _ (.inl aa)).mod _ (.inl (by have:=gg.nx;omega))) (by simp only[an,Nat.reduceEqDiff,reduceIte,u4]) (by simp only[an,Nat.reduceEqDiff,reduceIte,u5]) (by rw[az aa,az aa];exact ao rfl) (by rw[az aa];exact ao rfl) a4
 rintro e s' H6 I1 ⟨rfl,a2,a3,a5⟩ n6 hd6 hf6 M6;have g6:Gr H H6:=gg.then hf6 λk hk=>.inl (by rcases hk with rfl|rfl<;>omega);exact k4 _ _ (fin .ret _ _ _ _ _ (.inr rfl) (by show closeAll H6 (H5.nx::A.dfr)=_;rw[B0];exact fg hd6) (g6.mod _ (.inl (by have:=gg.nx;omega))) t4 t5 (by rw[az aa];exact a2) (by rw[az aa];exact a3) rfl)
def jg{n:List UInt8}{us:List Pr}(h:aR n us=0):us.length<=12/\(yv 1 us).length=us.length/\∀x∈us,1<=x.2/\x.2<=60:=by
 have hl:=kZ h;unfold aR at h;by_cases hk:gJ n us=true
 ·unfold gJ at hk;simp only[aT,bB]at hk;have hy:=hk.1.2;exact⟨hl,hy,((yT 1 us).1 hy).1⟩
 rw[ab hk]at h;cases h
def KC:∀(k:Nat)(v:Int)(us:List Pr)(s:List UInt8),(yv v us).length=us.length ->
  (qy k us s<0/\KB (yv v us) s=(0,11))\/∃j y,j<us.length/\qy k us s=((k+j:Nat):Int)/\(yv v us)[j]?=some y/\KB (yv v us) s=(y.2,0)
 |_,_,[],_,_=>.inl ⟨by unfold qy;omega,rfl⟩
 |k,v,x::us,s,h=>by
  unfold yv at h |-;by_cases hb:x.2<1\/60<x.2\/1099511627776<v*x.2
  ·rw[ad hb]at h;simp at h
  rw[ab hb]at h |-;rw[KB,qy];by_cases hs:x.1=s
  ·right;refine⟨0,(x,v*x.2),by simp,?_,rfl,?_⟩
   ·rw[ad hs];rfl
   rw[ad hs]
  rw[ab hs,ab hs];rcases KC (k+1) (v*x.2) us s (by simpa using h)with⟨h1,h2⟩|⟨j,y,h0,h1,h2,h3⟩
  ·exact .inl ⟨h1,h2⟩
  refine .inr ⟨j+1,y,by rw[List.length_cons];omega,?_,by rw[List.getElem?_cons_succ];exact h2,h3⟩;rw[h1];omega
def SlI.at{H:Hp}{v:AC}{l:List Int}(h:SlI H v l){j:Nat}{z:Int}(hz:l[j]?=some z):∃id g off cells,v=.o (.sl id g off l.length 1)/\id<H.nx/\rowOf (H.get id) g=some cells/\(cells.drop (off+j*1)).headD (.b false)=.i .i64 z/\off+j*1+1<=cells.length/\j<l.length:=by
 have hj:=(List.getElem?_eq_some_iff.1 hz).1;obtain⟨id,g,off,h1,h2,hr⟩:=SlC.pos h aa;have T3:=hr;obtain⟨cells,h3,h6,h7⟩:=hr;obtain⟨cells',k3,k6,k7⟩:=Rd.at (c:=BX) ID T3 hz;rw[h3]at k3;cases k3
 refine⟨id,g,off,cells,h1,h2,h3,?_,k6,hj⟩;cases hd:cells.drop (off+j*1)with
 |nil=>have:=congrArg List.length hd;simp at this;omega
 |cons a r=>rw[hd]at k7;have:=(sM k7).1;rw[this];rfl
def Ht:aq prog 12=true:=ae
def SlI.gr{H H':Hp}{v:AC}{l:List Int}(h:SlI H v l)(hg:Gr H H'):SlI H' v l:=SlC.gr h hg
def SlI.len{H:Hp}{v:AC}{l:List Int}(h:SlI H v l):eo H 1 (.one v)=.val (.one (.i .i64 (l.length:Int))) H:=SlC.len h
def SlI.lt{H:Hp}{v:AC}{l:List Int}(h:SlI H v l):ltV (.one v) H.nx:=sj h
def SlI.nil{H:Hp}:SlI H (.o .nilS) []:=⟨by simp,.inl ⟨rfl,rfl⟩⟩
def SlI.open{H:Hp}{v:AC}{l:List Int}(h:SlI H v l)(hn:0<l.length):∃id g off cells,v=.o (.sl id g off l.length 1)/\id<H.nx/\rowOf (H.get id) g=some cells/\∀(i:Nat)(x:Int),l[i]?=some x->(cells.drop (off+i*1)).headD (.b false)=.i .i64 x/\off+i*1+1<=cells.length:=by
 obtain⟨id,g,off,h1,h2,hr⟩:=SlC.pos h hn;have T3:=hr;obtain⟨cells,h3,h6,h7⟩:=hr;refine⟨id,g,off,cells,h1,h2,h3,λi x hx=>?_⟩;obtain⟨cells',k3,k6,k7⟩:=Rd.at (c:=BX) ID T3 hx;rw[h3]at k3;cases k3
 refine⟨?_,k6⟩;cases hd:cells.drop (off+i*1)with
 |nil=>have:=congrArg List.length hd;simp at this;omega
 |cons a r=>rw[hd]at k7;have:=(sM k7).1;rw[this];rfl
abbrev Cl:=Int×List UInt8×List UInt8×Nm
def ClR(H:Hp)(c:List AC)(x:Cl):Prop:=∃p q,c=[.i .i64 x.1,.o (.str x.2.1),.o (.str x.2.2.1),p,q]/\jA H p x.2.2.2.1/\jA H q x.2.2.2.2
def ClR.gr{H H':Hp}{c:List AC}{x:Cl}(h:ClR H c x)(hg:Gr H H'):ClR H' c x:=let ⟨p,q,h1,h2,h3⟩:=h;⟨p,q,h1,h2.gr hg,h3.gr hg⟩
def abo{k:Int}{s t:List UInt8}{p q:AC}:EZ [.i .i64 k,.o (.str s),.o (.str t),p,q]=(AV.one p).ids++(AV.one q).ids:=by simp only[abm,abn,abr,abp,gQ,List.append_nil]
def abq:LtR ClR:=λH c x⟨p,q,h1,h2,h3⟩i hi=>by
 subst h1;rw[abo]at hi;rcases List.mem_append.1 hi with h|h
 ·exact h2.lt i h
 exact h3.lt i h
def fJ(H:Hp)(v:AC)(l:List Cl):Prop:=SlR ClR 5 H v l
def fJ.gr{H H':Hp}{v:AC}{l:List Cl}(h:fJ H v l)(hg:Gr H H'):fJ H' v l:=SlR.dV h hg.nx (λi hi=>hg.get i hi aF) λ_ _ h=>h.gr hg
def fJ.len{H:Hp}{v:AC}{l:List Cl}(h:fJ H v l):eo H 1 (.one v)=.val (.one (.i .i64 (l.length:Int))) H:=SlR.len h
def fJ.lt{H:Hp}{v:AC}{l:List Cl}(h:fJ H v l):ltV (.one v) H.nx:=SlR.lt h
structure ClAt(H:Hp)(cells:List AC)(o:Nat)(x:Cl)(p q:AC):Prop where
 of1:jA H p x.2.2.2.1
 of2:jA H q x.2.2.2.2
 all:(cells.drop o).take 5=[.i .i64 x.1,.o (.str x.2.1),.o (.str x.2.2.1),p,q]
 le:o+5<=cells.length
 le1:o+1<=cells.length
 le2:o+1+1<=cells.length
 le3:o+2+1<=cells.length
 le4:o+3+2<=cells.length
 f1:(cells.drop o).headD (.b false)=.i .i64 x.1
 f2:(cells.drop (o+1)).headD (.b false)=.o (.str x.2.1)
 f3:(cells.drop (o+2)).headD (.b false)=.o (.str x.2.2.1)
 f4:(cells.drop (o+3)).take 2=[p,q]
def aaH{cells:List AC}{o:Nat}{a b c d e:AC}(h:(cells.drop o).take 5=[a,b,c,d,e]):(cells.drop o).headD (.b false)=a/\(cells.drop (o+1)).headD (.b false)=b/\(cells.drop (o+2)).headD (.b false)=c/\(cells.drop (o+3)).take 2=[d,e]:=by
 rw[<-iy,<-iy,<-iy];match hd:cells.drop o,h with
 |x0::x1::x2::x3::x4::r,h=>simp only[List.take_succ_cons,List.take_zero,sH,and_true]at h;obtain⟨rfl,rfl,rfl,rfl,rfl⟩:=h;exact⟨rfl,rfl,rfl,rfl⟩
def fJ.open{H:Hp}{v:AC}{l:List Cl}(h:fJ H v l)(hn:0<l.length):∃id g off cells,v=.o (.sl id g off l.length 5)/\id<H.nx/\rowOf (H.get id) g=some cells/\∀(i:Nat)(x:Cl),l[i]?=some x->∃p q,ClAt H cells (off+i*5) x p q:=by obtain⟨id,g,off,cells,h1,h2,h3,h4⟩:=SlR.open h hn;refine⟨id,g,off,cells,h1,h2,h3,λi x hx=>?_⟩;obtain⟨h5,c,h6,h7,p,q,rfl,h8,h9⟩:=h4 i x hx;obtain⟨d1,d2,d3,d4⟩:=aaH h6;exact⟨p,q,h8,h9,h6,h5,aa,aa,aa,aa,d1,d2,d3,d4⟩
abbrev Rl:=Int×List Int
def RlR(H:Hp)(c:List AC)(x:Rl):Prop:=∃u,c=[.i .i64 x.1,u]/\SlI H u x.2
def RlR.gr{H H':Hp}{c:List AC}{x:Rl}(h:RlR H c x)(hg:Gr H H'):RlR H' c x:=let ⟨u,h1,h2⟩:=h;⟨u,h1,h2.gr hg⟩
def fu(H:Hp)(v:AC)(l:List Rl):Prop:=SlR RlR 2 H v l
def fu.gr{H H':Hp}{v:AC}{l:List Rl}(h:fu H v l)(hg:Gr H H'):fu H' v l:=SlR.dV h hg.nx (λi hi=>hg.get i hi aF) λ_ _ h=>h.gr hg
def fu.len{H:Hp}{v:AC}{l:List Rl}(h:fu H v l):eo H 1 (.one v)=.val (.one (.i .i64 (l.length:Int))) H:=SlR.len h
def fu.lt{H:Hp}{v:AC}{l:List Rl}(h:fu H v l):ltV (.one v) H.nx:=SlR.lt h
structure RlAt(H:Hp)(cells:List AC)(o:Nat)(x:Rl)(u:AC):Prop where
 of:SlI H u x.2
 all:(cells.drop o).take 2=[.i .i64 x.1,u]
 le:o+2<=cells.length
 le1:o+1<=cells.length
 le2:o+1+1<=cells.length
 f1:(cells.drop o).headD (.b false)=.i .i64 x.1
 f2:(cells.drop (o+1)).headD (.b false)=u
def aaF{cells:List AC}{o:Nat}{a b:AC}(h:(cells.drop o).take 2=[a,b]):(cells.drop o).headD (.b false)=a/\(cells.drop (o+1)).headD (.b false)=b:=by
 rw[<-iy];match hd:cells.drop o,h with
 |x0::x1::r,h=>simp only[List.take_succ_cons,List.take_zero,sH,and_true]at h;obtain⟨rfl,rfl⟩:=h;exact⟨rfl,rfl⟩
def fu.open{H:Hp}{v:AC}{l:List Rl}(h:fu H v l)(hn:0<l.length):∃id g off cells,v=.o (.sl id g off l.length 2)/\id<H.nx/\rowOf (H.get id) g=some cells/\∀(i:Nat)(x:Rl),l[i]?=some x->∃u,RlAt H cells (off+i*2) x u:=by obtain⟨id,g,off,cells,h1,h2,h3,h4⟩:=SlR.open h hn;refine⟨id,g,off,cells,h1,h2,h3,λi x hx=>?_⟩;obtain⟨h5,c,h6,h7,u,rfl,h8⟩:=h4 i x hx;obtain⟨d1,d2⟩:=aaF h6;exact⟨u,h8,h6,h5,aa,aa,d1,d2⟩
abbrev Pz:=List Cl×List Rl
structure PzB(p:Pz):Prop where
 c:p.1.length*88<=140737488355328
 r:p.2.length*32<=140737488355328
 t:∀x∈p.1,x.2.2.2.1.length*32<=140737488355328/\x.2.2.2.2.length*32<=140737488355328
 p:∀x∈p.2,x.2.length*8<=140737488355328
def BN:aq prog 96=true:=ae
def ca(o:Option (List Lad))(s:List UInt8):Lad:=match o with|none=>([],[])|some ls=>(jH 0 ls s).elim ([],[]) λi=>ls.getD i ([],[])
def RC.of{H:Hp}{c:List AC}{o:Option (List Lad)}{s:List UInt8}(h:RC H c o s):∃u,c=[.o (.str (ca o s).1),u]/\SlP H u (ca o s).2:=by
 obtain⟨h1,h2⟩:=h;cases o with
 |none=>exact⟨_,h1 (by rw[Qq];decide),SlP.nil⟩
 |some ls=>
  rw[nR]at h1;cases hi:jH 0 ls s with
  |none=>
   rw[hi]at h1;have e:ca (some ls) s=([],[]):=by unfold ca;simp only[hi,Option.elim_none]
   rw[e];exact⟨_,h1 aE,SlP.nil⟩
  |some i=>
   obtain⟨x,hx,_⟩:=Lx hi;have e:ca (some ls) s=x:=by unfold ca;simp only[hi,Gz];rw[bt,hx];rfl
   rw[e];exact h2 ls i x rfl hi hx
def OE(acc:List Cl)(x:Cl):Bool:=acc.getLast?.any λy=>decide (x.1<=y.1)
def LW{l:List Cl}{i:Nat}{x y:Cl}(hi:0<i)(hy:l[i-1]?=some y):OE (l.take i) x=decide (x.1<=y.1):=by
 have h:(l.take i).getLast?=some y:=by have D0:=(List.getElem?_eq_some_iff.1 hy).1;rw[Gx,dY,wg aa,lR,ad aa];exact hy
 unfold OE;rw[h];rfl
def goC(o:Option (List Lad)):List Cl->List Cl->Int
 |_,[]=>0
 |acc,x::l=>if x.1<0 then 53 else if 255<x.1 then 53 else if OE acc x=true then 53 else if nmB x.2.1=false then 53 else if sU o x.2.2.1≠0 then 4 else if te x.2.2.2≠0 then te x.2.2.2 else goC o (acc++[x]) l
def zZ(H:Hp)(k v:AC)(o:Option (List Lad))(l:List Cl)(hk:cM H k o)(hL:∀ls,o=some ls->∀x∈ls,x.2.length<=1000000)(hv:fJ H v l)(hB:l.length<=1000000):
  Con E2 96 [.one k,.one v] H (λ_=>False) λr _=>r=.one (.i .i64 (goC o [] l)):=by
 refine Con.of rfl λlg=>?_;have hk:cM ⟨H.t,H.nx,lg⟩ k o:=cM.same (H:=H) rfl rfl hk;have hv:fJ ⟨H.t,H.nx,lg⟩ v l:=hv;generalize(⟨H.t,H.nx,lg⟩:Hp)=H at hk hv |-
 refine C1.fK 62 [.tmp 4] Tryz.func96 λtm h0 h1=>?_;have fin:=Ax E2 H 4 (goC o [] l);generalize E0:goC o [] l=r0 at fin;refine qW (zDg aw h0 h1 lD hv.len hv.lt) ?_;refine R1.bJ λK k1 k2 k3 k4=>?_;refine R1.loop (λm A H2=>∃i:Nat,m=l.length-i/\i<=l.length/\Gr H H2/\goC o (l.take i) (l.drop i)=r0/\gU A.tm 0 1 10 (k) (v) (v) (lW A l.length i (A.nt=62/\A.dfr=[]))) ?_ l.length ⟨0,rfl,Nat.zero_le _,Fr.refl _,E0,?_⟩
 ·clear h0 h1 tm;rintro m A H2 ⟨i,rfl,hi,g2,hr,t0,t1,t10,t11,t12,A0,B0⟩;have O6:=hv.gr g2;have R3:=hk.gr g2;refine qW (zDe aw t11 t12 A0) ?_;refine qE λKx Ky hx hy=>?_;refine kG (λhc=>hx ?_) (λhc=>hy ?_)
  ·clear hx hy Kx Ky;have D0:i<l.length:=aa;have ex:=aO D0;have S0:=List.drop_eq_getElem_cons D0;have Y2:=dK D0;have I0:=cU D0;generalize l[i]=x at ex S0 Y2 I0;have N2:=bw i;obtain⟨id,g,off,cells,rfl,hid,B2,Q0⟩:=O6.open aa;obtain⟨p,q,Y0⟩:=Q0 i x ex;rw[S0,goC]at hr;refine qV ?_;refine R1.bJ λK2 q1 q2 q3 q4=>?_;refine qG (zDm aw t10 t12 A0 lj Fy Gj GL (ixC D0) hid B2 (qA Y0.all Y0.le)) λK hK=>?_;apply hK;refine R1.gen (λA3 H3=>Gr H2 H3/\H2.nx<H3.nx/\H3.get H2.nx=some (.arr [.i .i64 x.1,.o (.str x.2.1),.o (.str x.2.2.1),p,q] 58 0 0)/\MC A3.tm 0 1 5 6 10 (k) (.o (.sl id g off l.length 5)) (.i .i64 (i:Int)) (.o (.ptr H2.nx 0 0 5)) (.o (.sl id g off l.length 5)) (lW A3 l.length i (A3.nt=62/\A3.dfr=[])))
    ⟨((Fr.refl _).new _).mod _ (.inl (ai _)),?_⟩ ?_
   ·exact qZ (zDh t0 t1 t10 t11 t12 A0 B0)
   clear t0 t1 t10 t11 t12 A0 B0 A;rintro A H3 ⟨g3,n3,rx,t0,t1,t5,t6,t10,t11,t12,A0,B0⟩;obtain⟨M,hM⟩:=dZ H2.nx;rw[<-hM]at rx n3 t6;have hgr3:rowOf (H3.get id) g=some cells:=by rw[g3.get _ hid aF];exact B2
   have hid3:id<H3.nx:=ay hid g3.nx;have hk3:=R3.gr g3;have g13:=g2.gr g3;generalize C0:(if sU o x.2.2.1≠0 then 4 else if te x.2.2.2≠0 then te x.2.2.2 else goC o (l.take i++[x]) (l.drop (i+1)))=r1 at hr;repeat refine R1.aM ?_
   (first|refine R1.JR ae λK hK=>?_|refine R1.Ll ae λK hK=>?_)
   have rest:∀(b:Bool)(A4:ag)(H4:Hp),Gr H3 H4->(if b=true then 53 else r1)=r0->wy A4.tm 0 1 6 10 (k) (.o (.sl id g off l.length 5)) (.o (.ptr M 0 0 5)) (.o (.sl id g off l.length 5)) (lW A4 l.length i (eK A4 45 (.b b) 62 []))->K A4 H4:=by
    clear hr t0 t1 t5 t6 t10 t11 t12 A0 B0 A;rintro b A H4 g4 hr ⟨t0,t1,t6,t10,t11,t12,t45,A0,B0⟩;apply hK;obtain⟨rx,n3⟩:=bq g4 n3 rx;have hk4:=hk3.gr g4;have g14:=g13.gr g4;have g24:=g3.gr g4;clear g3;cases b with
    |true=>rw[ad rfl]at hr;refine qX t45 ?_;refine qW A0 ?_;exact q4 _ _ (k4 _ _ (fin (53) _ _ qp (qd B0) (g14) (hr)))
    |false=>
    rw[ab zA8,<-C0]at hr;refine qX t45 ?_;refine R1.cq ?_;refine qG (zDj aw t0 t6 A0 rx n3 nK cB nj) λK hK=>?_;refine WE.con (lC H4 k o x.2.2.1 hk4 hL) λw H6 g6⟨c,hw,ha,W0⟩=>?_;subst hw;obtain⟨rx,n3⟩:=bq g6 n3 rx;have g6:=g24.gr g6;refine qS (zDf aw A0 iA mO W0) ?_;apply hK;refine R1.gen (λA7 H7=>Gr H2 H7/\H7.get M=some (.arr [.i .i64 x.1,.o (.str x.2.1),.o (.str x.2.2.1),p,q] 58 0 0)/\M<H7.nx/\gU A7.tm 0 1 6 (k) (.o (.sl id g off l.length 5)) (.o (.ptr M 0 0 5)) (fI A7 (sU o x.2.2.1) (slot A7.tm 10=.one (.o (.sl id g off l.length 5))/\lW A7 l.length i (A7.nt=62/\A7.dfr=[]))))
     ⟨(g6.new _).mod _ (.inl g6.nx),?_,?_,?_⟩ ?_
    ·rw[az (Nat.ne_of_lt n3),bu n3];exact rx
    ·exact zd n3
    ·exact kq (zDi t0 t1 t6 t10 t11 t12 A0 B0)
    clear t0 t1 t6 t10 t11 t12 t45 A0 B0 A;rintro A H7 ⟨g7,rx,n7,t0,t1,t6,t8,t10,t11,t12,A0,B0⟩;generalize sU o x.2.2.1=e0 at hr t8;by_cases S1:e0=0
    case neg=>have ce:(e0==0)=false:=aW S1;rw[ad S1]at hr;refine qW (zDe aw t8 A0 ce) ?_;refine qY ?_;refine qW A0 ?_;exact q4 _ _ (k4 _ _ (fin (4) _ _ qp (qd B0) (g2.gr g7) (hr)))
    rw[ab (λh=>h S1)]at hr;have ce:(e0==0)=true:=by rw[S1];rfl
    refine qW (zDe aw t8 A0 ce) ?_;refine qY ?_;refine R1.cq ?_;have hp7:=Y0.of1.gr g7;have hq7:=Y0.of2.gr g7;refine qG (zDi aw t6 A0 rx n7 Qa ZN Hu) λK hK=>?_;refine WE.con (FN H7 p q x.2.2.2 hp7 hq7) λw H8 g8 hw=>?_;subst hw;have g8:=g7.gr g8;refine qS (qA aw A0) ?_;apply hK;generalize te x.2.2.2=e1 at hr |-;by_cases l7:e1=0
    case neg=>have ce:(e1==0)=false:=aW l7;rw[ad l7]at hr;refine qW (zDd aw A0 ce) ?_;refine qY ?_;refine qW A0 ?_;exact q4 _ _ (k4 _ _ (fin (e1) _ _ qp (qd B0) (g2.gr g8) (hr)))
    rw[ab (λh=>h l7),<-Y2]at hr;have ce:(e1==0)=true:=by rw[l7];rfl
    refine qW (zDd aw A0 ce) ?_;refine qY ?_;refine qW A0 ?_;refine q1 _ _ ?_;refine qW (zDd A0 t12 N2) ?_;refine⟨l.length-(i+1),aa,i+1,rfl,D0,g2.gr g8,hr,?_⟩;exact kq (zDh t0 t1 t10 t11 t12 A0 B0)
   clear hK;by_cases c0:x.1<0
   ·rw[ad c0]at hr;have c0:=cK c0;refine qS (zDi aw t6 A0 rx n3 nJ cA c0) ?_;refine rest true _ _ (Fr.refl _) hr ?_;exact kq (zDi t0 t1 t6 t10 t11 t12 A0 B0)
   rw[ab c0]at hr;by_cases c1:255<x.1
   ·rw[ad c1]at hr;have c0:=bT c0;have c1:(256<=x.1)=True:=cK aa;refine qS (zDj aw t6 A0 rx n3 nJ cA c0 c1) ?_;refine rest true _ _ (Fr.refl _) hr ?_;exact kq (zDi t0 t1 t6 t10 t11 t12 A0 B0)
   rw[ab c1]at hr;have c0:=bT c0;have c1:(256<=x.1)=False:=bT aa;by_cases T5:i=0
   ·have ci:((0:Int)<(i:Int))=False:=bT aa;rw[T5,List.take_zero,ab (by exact zA8)]at hr;refine qS (zDm aw t5 t6 A0 rx n3 nJ CQ cA cB c0 (zDd c1 ci nh)) ?_;refine WE.eu (qC x.2.1) λH4 g4 n4 e4=>?_;refine qS (qA aw A0) ?_;refine rest (!nmB x.2.1) _ _ g4 ?_ ?_
    ·rw[<-hr];cases nmB x.2.1<;>rfl
    exact kq (zDi t0 t1 t6 t10 t11 t12 A0 B0)
   have ci:((0:Int)<(i:Int))=True:=cK aa;have hlt3:i-1<l.length:=aa;have ey:=aO hlt3;have hpp:=λx=>LW (x:=x) aa ey;generalize l[i-1]=y at ey hpp;obtain⟨p',q',N6⟩:=Q0 (i-1) y ey;have j5:IntKind.i64.wrap ((i:Int)-1)=((i-1:Nat):Int):=by rw[aI aa aa];omega
   rw[hpp x]at hr;by_cases c2:x.1<=y.1
   ·rw[ad (aL c2)]at hr;have c2:=cK c2;refine qS (zDm aw t1 t5 t6 A0 rx n3 nJ cA c0 c1 (zDj ci c2 j5 lj (ixC hlt3) hid3 hgr3 N6.f1 N6.le1)) ?_;refine rest true _ _ (Fr.refl _) hr ?_;exact kq (zDi t0 t1 t6 t10 t11 t12 A0 B0)
   rw[ab (by rw[bB];exact c2)]at hr;have c2:=bT c2;refine qS (zDm aw t1 t5 t6 A0 rx n3 nJ CQ cA cB (zDm c0 c1 ci c2 j5 lj (ixC hlt3) hid3 hgr3 N6.f1 N6.le1 nh)) ?_;refine WE.eu (qC x.2.1) λH4 g4 n4 e4=>?_;refine qS (qA aw A0) ?_;refine rest (!nmB x.2.1) _ _ g4 ?_ ?_
   ·rw[<-hr];cases nmB x.2.1<;>rfl
   exact kq (zDi t0 t1 t6 t10 t11 t12 A0 B0)
  clear hx hy Kx Ky;have U2:i=l.length:=aa;rw[U2,dD,goC]at hr;refine qW A0 ?_;refine k2 _ _ ?_;refine qW A0 ?_;exact fin (0) _ _ qp (qd B0) (g2) (hr)
 exact kq (qA h0 h1)
def BO:aq prog 97=true:=ae
def Yq:∃z,ba prog 4=some z/\(ofValue z).cells=[.b false]:=⟨.bool false,jd,rfl⟩
def sS(lc:List Cl)(m:Int):List UInt8:=(lc[m.toNat]?).elim [] λx=>x.2.2.1
def DQ(acc:List Int)(m:Int):Bool:=acc.getLast?.any λy=>decide (m<=y)
def LX{l:List Int}{i:Nat}{x y:Int}(hi:0<i)(hy:l[i-1]?=some y):DQ (l.take i) x=decide (x<=y):=by
 have h:(l.take i).getLast?=some y:=by have D0:=(List.getElem?_eq_some_iff.1 hy).1;rw[Gx,dY,wg aa,lR,ad aa];exact hy
 unfold DQ;rw[h];rfl
def iQ(lc:List Cl)(t:Int):List Int->List Int->Bool
 |_,[]=>true
 |acc,m::l=>if m<0 then false else if(lc.length:Int)<=m then false else if DQ acc m=true then false else if sS lc m≠sS lc t then false else iQ lc t (acc++[m]) l
def goR(lc:List Cl):List Int->List Int->List Rl->Bool
 |T,S,[]=>(List.range lc.length).all λj=>!(T.any (λx=>x==(j:Int))&&S.any λx=>x==(j:Int))
 |T,S,x::l=>if x.1<0 then false else if(lc.length:Int)<=x.1 then false else if T.any (λy=>y==x.1)=true then false else if iQ lc x.1 [] x.2=false then false else goR lc (T++[x.1]) (S++x.2) l
def Aa(H:Hp)(a b:AC)(lc:List Cl)(lr:List Rl)(ha:fJ H a lc)(hb:fu H b lr)(hC:lc.length<=1000000)(hR:lr.length<=1000000)(hP:∀x∈lr,x.2.length<=4611686018427387904):
  Con E2 97 [.agg [a,b]] H (λ_=>False) λr _=>r=.one (.b (goR lc [] [] lr)):=by
 refine Con.iM (λH=>fJ H a lc) ha (λH=>fu H b lr) hb λH ha hb=>?_;refine C1.jf 111 [.tmp 2] Tryz.func97 λtm h0=>?_;have fin:=Tq E2 H 2 (goR lc [] [] lr);generalize E0:goR lc [] [] lr=r0 at fin;have hA:=ha;have hB:=hb;obtain⟨z,hz,hzc⟩:=Yq;have mk:∀H,dN prog H 232 (.one (.i .i64 (lc.length:Int))) (.one (.i .i64 (lc.length:Int)))=.val (.one (.o (.sl H.nx 0 0 lc.length 1))) (H.new (.arr ((List.replicate lc.length false).map AC.b) 4 0 0)):=λH=>by rw[tK nF Wv hz (by rw[hzc];rfl) aa,hzc,yL,List.map_replicate]
 refine qG (qA aw h0) λK hK=>?_;apply hK;refine R1.gen (λA1 H1=>Gr H H1/\H.nx+1=H1.nx/\H1.get H.nx=some (.arr [a,b] 26 0 0)/\ea A1 H.nx (A1.nt=111/\A1.dfr=[]))
  ⟨(Fr.refl _).new _,rfl,?_⟩ ?_
 ·exact qU
 rintro A1 H1 ⟨g1,n1,r1,t1,A0,B0⟩;clear h0 tm;obtain⟨N,hN⟩:=dZ H.nx;rw[<-hN]at n1 r1 t1;have m1:N<H1.nx:=aa;have ha:=ha.gr g1;have hb:=hb.gr g1;refine qW (zDl aw t1 A0 r1 m1 er iO lD ha.len ha.lt mk) ?_;refine R1.gen (λA2 H2=>Gr H1 H2/\N+3=H2.nx/\H2.get N=some (.arr [a,b] 26 0 0)/\H2.get (N+1)=some (.arr ((List.replicate lc.length false).map AC.b) 4 0 0)/\H2.get (N+2)=some (.arr ((List.replicate lc.length false).map AC.b) 4 0 0)/\ea A2 N (dw A2 lc.length (rV A2 (N+1) lc.length (N+2) lc.length (A2.nt=111/\A2.dfr=[]))))
  ⟨((Fr.refl _).new _).new _,by show _=H1.nx+1+1;omega,?_,?_,?_,?_⟩ ?_
 ·rw[bu (by show _<H1.nx+1;omega),bu m1];exact r1
 ·rw[bu (by show _<H1.nx+1;omega)];exact aJ n1
 ·exact aJ (by show _=H1.nx+1;omega)
 ·rw[n1];have e2:N+2=H1.nx+1:=aa;rw[e2];exact kq (zDd t1 A0 B0)
 clear t1 A0 B0 A1;rintro A2 H2 ⟨g2,n2,r1,rs,rp,t1,t3,t4,t5,A0,B0⟩;clear m1 n1;have m1:N<H2.nx:=aa;have ha:=ha.gr g2;have hb:=hb.gr g2;have g2:=g1.gr g2;clear g1;have fits:∀{m:Int}{bs:List Bool},bs.length=lc.length->0<=m->m<lc.length->m.toNat+1<=(bs.map AC.b).length:=λh h1 h2=>by rw[cT,h];omega
 have put:∀{m:Int}{bs:List Bool},bs.length=lc.length->0<=m->m<lc.length->List.take m.toNat (List.map AC.b bs)++AC.b true::List.drop (m.toNat+1) (List.map AC.b bs)=(bs.set m.toNat true).map AC.b:=λh h1 h2=>setRow AC.b _ _ _ (by rw[h];omega);refine qW (zDk aw t1 A0 r1 m1 jG qK qM hb.len hb.lt) ?_;refine R1.bJ λK k1 k2 k3 k4=>?_;refine R1.loop (λm A H3=>∃(i:Nat)(T S:List Int)(bs ps:List Bool),m=lr.length-i/\i<=lr.length/\Gr H H3/\N+3<=H3.nx/\H3.get N=some (.arr [a,b] 26 0 0)/\H3.get (N+1)=some (.arr (bs.map AC.b) 4 0 0)/\H3.get (N+2)=some (.arr (ps.map AC.b) 4 0 0)/\Mk bs lc.length T/\Mk ps lc.length S/\goR lc T S (lr.drop i)=r0 /\
   slot A.tm 1=.one ((.o (.ptr N 0 0 2)))/\slot A.tm 3=.one (.i .i64 (lc.length:Int))/\slot A.tm 4=.one ((.o (.sl (N+1) 0 0 lc.length 1)))/\slot A.tm 5=.one ((.o (.sl (N+2) 0 0 lc.length 1)))/\slot A.tm 19=.one (b)/\slot A.tm 20=.one (.i .i64 (lr.length:Int))/\slot A.tm 21=.one (.i .i64 (i:Int))/\A.nt=111/\A.dfr=[]) ?_ lr.length
  ⟨0,[],[],_,_,rfl,Nat.zero_le _,g2,mS n2,r1,rs,rp,Mk.nil _,Mk.nil _,E0,?_⟩
 ·clear t1 t3 t4 t5 A0 B0 A2 r1 rs rp E0;rintro m A H3 ⟨i,T,S,bs,ps,rfl,hi,g3,n3,r1,rs,rp,hT,hS,hr,t1,t3,t4,t5,t19,t20,t21,A0,B0⟩;have hb3:=hB.gr g3;have m1:N<H3.nx:=aa;have o1:N+1<H3.nx:=aa;have o2:N+2<H3.nx:=aa;refine qW (zDe aw t20 t21 A0) ?_;refine qE λKx Ky hx hy=>?_;refine kG (λhc=>hx ?_) (λhc=>hy ?_)
  ·clear hx hy Kx Ky;have D0:i<lr.length:=aa;have ex:=aO D0;have S0:=List.drop_eq_getElem_cons D0;have Y2:=dK D0;have I0:=cU D0;generalize lr[i]=x at ex S0 Y2 I0;have N2:=bw i;obtain⟨id,g,off,cells,rfl,J3,hgr0,Q0⟩:=hB.open aa;have hid:id<H3.nx:=ay J3 g3.nx;have B2:rowOf (H3.get id) g=some cells:=by rw[g3.get _ J3 aF];exact hgr0
   obtain⟨u,Y0⟩:=Q0 i x ex;have hu:=Y0.of;have hPx:=hP x I0;rw[S0,goR]at hr;generalize Y3:iQ lc x.1 [] x.2=b1 at hr;generalize C0:(if b1=false then false else goR lc (T++[x.1]) (S++x.2) (lr.drop (i+1)))=r1' at hr;refine qV ?_;refine R1.bJ λK2 q1 q2 q3 q4=>?_;refine qG (zDm aw t19 t21 A0 Am FA Gl GN (ixC D0) hid B2 (qA Y0.all Y0.le)) λK hK=>?_;apply hK;refine R1.gen (λA4 H4=>Gr H3 H4/\H3.nx<H4.nx/\H4.get H3.nx=some (.arr [.i .i64 x.1,u] 82 0 0)/\ea A4 N (dw A4 lc.length (rV A4 (N+1) lc.length (N+2) lc.length (slot A4.tm 7=.one (.o (.ptr H3.nx 0 0 2))/\xm A4 id g off lr.length lr.length i (A4.nt=111/\A4.dfr=[])))))
    ⟨((Fr.refl _).new _).mod _ (.inl (ai _)),?_⟩ ?_
   ·exact qZ (zDj t1 t3 t4 t5 t19 t20 t21 A0 B0)
   clear t1 t3 t4 t5 t19 t20 t21 A0 B0 A;rintro A H4 ⟨g4,n4,rx,t1,t3,t4,t5,t7,t19,t20,t21,A0,B0⟩;obtain⟨M,hM⟩:=dZ H3.nx;rw[<-hM]at rx n4 t7;obtain⟨r1,m1⟩:=bq g4 m1 r1;obtain⟨rs,o1⟩:=bq g4 o1 rs;obtain⟨rp,o2⟩:=bq g4 o2 rp;have hNM:N+3<=M:=aa;have g4:=g3.gr g4;clear B2 hid hb3 Y0 Q0 J3 hgr0;repeat refine R1.aM ?_
   (first|refine R1.wY λK hK=>?_|refine R1.Lk λK hK=>?_)
   have rest:∀(b:Bool)(A5:ag),(b=false->0<=x.1/\x.1<lc.length)->(if b=true then false else r1')=r0->ea A5 N (dw A5 lc.length (rV A5 (N+1) lc.length (N+2) lc.length (slot A5.tm 7=.one (.o (.ptr M 0 0 2))/\xm A5 id g off lr.length lr.length i (eK A5 40 (.b b) 111 []))))->K A5 H4:=by
    clear hr t1 t3 t4 t5 t7 t19 t20 t21 A0 B0 A;rintro b A hxb hr ⟨t1,t3,t4,t5,t7,t19,t20,t21,t40,A0,B0⟩;apply hK;cases b with
    |true=>rw[ad rfl]at hr;refine qX t40 ?_;refine qW A0 ?_;exact q4 _ _ (k4 _ _ (fin (false) _ _ qp (qd B0) (g4) (hr)))
    |false=>
    rw[ab zA8]at hr;obtain⟨L4,j7⟩:=hxb rfl;refine qX t40 ?_;refine R1.cq ?_;refine qG (zDm aw t4 t7 A0 rx n4 rs o1 iF cA nF (zDf OX (ixI L4 j7) bR (fits hT.1 L4 j7) (put hT.1 L4 j7))) λK hK=>?_;apply hK;have hT:=hT.set L4 j7;generalize bs.set x.1.toNat true=bs at hT |-;have g5:Gr H (H4.mod (N+1) (.arr (bs.map AC.b) 4 0 0)):=g4.mod _ (.inl aa);have r1:(H4.mod (N+1) (.arr (bs.map AC.b) 4 0 0)).get N=_:=(az aa).trans r1;have rx:(H4.mod (N+1) (.arr (bs.map AC.b) 4 0 0)).get M=_:=(az aa).trans rx;have rp:(H4.mod (N+1) (.arr (bs.map AC.b) 4 0 0)).get (N+2)=_:=(az aa).trans rp;have rs:(H4.mod (N+1) (.arr (bs.map AC.b) 4 0 0)).get (N+1)=_:=ao rfl;have n5:M<(H4.mod (N+1) (.arr (bs.map AC.b) 4 0 0)).nx:=n4;generalize(H4.mod (N+1) (.arr (bs.map AC.b) 4 0 0))=H5 at g5 r1 rx rp rs n5 |-
    clear g4 n4 m1 o1 o2;have R5:=hu.gr g5;refine qG (zDk aw t7 A0 rx n5 nM sh FE R5.len R5.lt) λK hK=>?_;apply hK;refine R1.mh λK p1 p2 p3 p4=>?_;refine R1.loop (λm A H6=>∃(j:Nat)(ps:List Bool),m=x.2.length-j/\j<=x.2.length/\Gr H H6/\M<H6.nx/\H6.get N=some (.arr [a,.o (.sl id g off lr.length 2)] 26 0 0)/\H6.get (N+1)=some (.arr (bs.map AC.b) 4 0 0)/\H6.get (N+2)=some (.arr (ps.map AC.b) 4 0 0)/\H6.get M=some (.arr [.i .i64 x.1,u] 82 0 0)/\Mk ps lc.length (S++x.2.take j)/\iQ lc x.1 (x.2.take j) (x.2.drop j)=b1 /\
     slot A.tm 1=.one ((.o (.ptr N 0 0 2)))/\slot A.tm 3=.one (.i .i64 (lc.length:Int))/\slot A.tm 4=.one ((.o (.sl (N+1) 0 0 lc.length 1)))/\slot A.tm 5=.one ((.o (.sl (N+2) 0 0 lc.length 1)))/\slot A.tm 7=.one ((.o (.ptr M 0 0 2)))/\slot A.tm 19=.one ((.o (.sl id g off lr.length 2)))/\slot A.tm 20=.one (.i .i64 (lr.length:Int))/\slot A.tm 21=.one (.i .i64 (i:Int))/\slot A.tm 46=.one (u)/\slot A.tm 47=.one (.i .i64 (x.2.length:Int))/\slot A.tm 48=.one (.i .i64 (j:Int))/\A.nt=111/\A.dfr=[]) ?_ x.2.length
     ⟨0,_,rfl,Nat.zero_le _,g5,n5,r1,rs,rp,rx,by rw[List.take_zero,List.append_nil];exact hS,Y3,?_⟩
    ·clear t1 t3 t4 t5 t7 t19 t20 t21 t40 A0 B0 A hS r1 rs rp rx n5 R5 g5 Y3;rintro m A H6 ⟨j,ps,rfl,hj,g6,n6,r1,rs,rp,rx,hS,Y3,t1,t3,t4,t5,t7,t19,t20,t21,t46,t47,t48,A0,B0⟩;have m1:N<H6.nx:=aa;have o2:N+2<H6.nx:=aa;refine qW (zDe aw t47 t48 A0) ?_;refine qE λKx Ky hx hy=>?_;refine kG (λo8=>hx ?_) (λo8=>hy ?_)
     ·clear hx hy Kx Ky;have hlj:j<x.2.length:=aa;have hdj:=List.drop_eq_getElem_cons hlj;have htj:=dK hlj;have ej:=aO hlj;generalize x.2[j]=m at hdj htj ej;have hwj:=bw j;have M7:=hu.gr g6;have ha6:=hA.gr g6;obtain⟨ui,ug,uo,uc,rfl,hui,hug,hut⟩:=M7.open aa;have hm1:=hut j m ej;rw[hdj,iQ]at Y3;refine qV ?_;refine R1.bJ λK3 w1 w2 w3 w4=>?_;refine qG (zDl aw t46 t48 A0 fD cA (ixC hlj) hui hug hm1.1 hm1.2) λK hK=>?_;apply hK;refine R1.gen (λA7 H7=>H7=H6/\ea A7 N (dw A7 lc.length (rV A7 (N+1) lc.length (N+2) lc.length (slot A7.tm 7=.one (.o (.ptr M 0 0 2))/\fI A7 j (pz A7 m (xm A7 id g off lr.length lr.length i (pF A7 46 47 48 (.o (.sl ui ug uo x.2.length 1)) (.i .i64 (x.2.length:Int)) (.i .i64 (j:Int)) 111 [])))))))
       ⟨rfl,?_⟩ ?_
      ·exact kq (zDm t1 t3 t4 t5 t7 t19 t20 t21 t46 t47 t48 (qA A0 B0))
      clear t1 t3 t4 t5 t7 t19 t20 t21 t46 t47 t48 A0 B0 A;rintro A H7 ⟨rfl,t1,t3,t4,t5,t7,t8,t9,t19,t20,t21,t46,t47,t48,A0,B0⟩;generalize hb2:iQ lc x.1 (x.2.take j++[m]) (x.2.drop (j+1))=b2 at Y3;repeat refine R1.aM ?_
      (first|refine R1.JR ae λK hK=>?_|refine R1.Ll ae λK hK=>?_)
      have rest2:∀(b:Bool)(A8:ag),(b=false->0<=m/\m<lc.length)->(if b=true then false else b2)=b1->ea A8 N (dw A8 lc.length (rV A8 (N+1) lc.length (N+2) lc.length (slot A8.tm 7=.one (.o (.ptr M 0 0 2))/\pz A8 m (xm A8 id g off lr.length lr.length i (yf A8 46 47 48 89 (.o (.sl ui ug uo x.2.length 1)) (.i .i64 (x.2.length:Int)) (.i .i64 (j:Int)) (.b b) 111 [])))))->K A8 H7:=by
       clear Y3 t1 t3 t4 t5 t7 t8 t9 t19 t20 t21 t46 t47 t48 A0 B0 A;rintro b A hmb Y3 ⟨t1,t3,t4,t5,t7,t9,t19,t20,t21,t46,t47,t48,t89,A0,B0⟩;apply hK;cases b with
       |true=>rw[ad rfl]at Y3;rw[<-Y3,ad rfl]at C0;rw[<-C0]at hr;refine qX t89 ?_;refine qW A0 ?_;exact w4 _ _ (p4 _ _ (q4 _ _ (k4 _ _ (fin (false) _ _ qp (qd B0) (g6) (hr)))))
       |false=>
       rw[ab zA8,<-hb2,<-htj]at Y3;obtain⟨hm0,hmn⟩:=hmb rfl;refine qX t89 ?_;refine R1.cq ?_;refine qG (zDm aw t5 t9 A0 rp o2 nF OX (ixI hm0 hmn) bR (fits hS.1 hm0 hmn) (put hS.1 hm0 hmn)) λK hK=>?_;apply hK;refine w1 _ _ ?_;refine qW (zDd A0 t48 hwj) ?_;have hS:=hS.set hm0 hmn;rw[bW,<-htj]at hS;refine⟨x.2.length-(j+1),aa,j+1,ps.set m.toNat true,rfl,hlj,g6.mod _ (.inl aa),n6,(az aa).trans r1,(az aa).trans rs,ao rfl,(az aa).trans rx,hS,Y3,?_⟩;exact kq (zDm t1 t3 t4 t5 t7 t19 t20 t21 t46 t47 t48 (qA A0 B0))
      clear hK;by_cases c0:m<0
      ·rw[ad c0]at Y3;have c0:=cK c0;refine qS (zDe aw t9 A0 c0) ?_;refine rest2 true _ (λh=>by cases h) Y3 ?_;exact kq (zDm t1 t3 t4 t5 t7 t9 t19 t20 t21 t46 t47 (zDd t48 A0 B0))
      rw[ab c0]at Y3;by_cases c1:(lc.length:Int)<=m
      ·rw[ad c1]at Y3;have c0:=bT c0;have c1:=cK c1;refine qS (zDg aw t3 t9 A0 c0 c1) ?_;refine rest2 true _ (λh=>by cases h) Y3 ?_;exact kq (zDm t1 t3 t4 t5 t7 t9 t19 t20 t21 t46 t47 (zDd t48 A0 B0))
      rw[ab c1]at Y3;have hm0:0<=m:=aa;have hmn:m<lc.length:=aa;have c0:=bT c0;have c1:=bT c1;obtain⟨ci,cg,co,cc,rfl,U4,hcg,hct⟩:=ha6.open aa;have em:lc[m.toNat]?=some lc[m.toNat]:=aO aa;have et:lc[x.1.toNat]?=some lc[x.1.toNat]:=aO aa;have lm:sS lc m=lc[m.toNat].2.2.1:=by unfold sS;rw[em];rfl
      have lt:sS lc x.1=lc[x.1.toNat].2.2.1:=by unfold sS;rw[et];rfl
      rw[lm,lt]at Y3;generalize lc[m.toNat]=ym at em Y3;generalize lc[x.1.toNat]=yt at et Y3;obtain⟨_,_,hym⟩:=hct _ _ em;obtain⟨_,_,hyt⟩:=hct _ _ et;have m2:M<H7.nx:=n6;have last:∀(d:Bool),(if ym.2.2.1≠yt.2.2.1 then false else b2)=b1->lEq ym.2.2.1 yt.2.2.1=d->(if(!d)=true then false else b2)=b1:=λd h e=>by
       rw[iN]at e;cases d with
       |true=>rw[ab (λhn=>hn (eq_of_beq e))]at h;exact h
       |false=>rw[ad (ne_of_beq_false e)]at h;exact h
      generalize hle:lEq ym.2.2.1 yt.2.2.1=d at last;by_cases hj0:j=0
      ·have cj:((0:Int)<(j:Int))=False:=bT aa;rw[hj0,List.take_zero,ab (by exact zA8)]at Y3;refine qS (zDm aw t1 t3 t7 t8 t9 A0 c0 c1 cj r1 (zDm m1 rx m2 er iO lj nK cB iF cA (ixI hm0 hmn) (zDi (ixI L4 j7) U4 hcg hym.f3 hym.le3 hyt.f3 hyt.le3 hle))) ?_;refine rest2 (!d) _ (λ_=>⟨hm0,hmn⟩) (last d Y3 rfl) ?_;exact kq (zDm t1 t3 t4 t5 t7 t9 t19 t20 t21 t46 t47 (zDd t48 A0 B0))
      have cj:((0:Int)<(j:Int))=True:=cK aa;have hlt3:j-1<x.2.length:=aa;have ey:=aO hlt3;have hpp:=λz=>LX (x:=z) aa ey;generalize x.2[j-1]=y at ey hpp;have N6:=hut (j-1) y ey;have j5:IntKind.i64.wrap ((j:Int)-1)=((j-1:Nat):Int):=by rw[aI aa aa];omega
      rw[hpp m]at Y3;by_cases c2:m<=y
      ·rw[ad (aL c2)]at Y3;have c2:=cK c2;refine qS (zDm aw t3 t7 t8 t9 A0 c0 c1 cj c2 j5 (zDl rx m2 nM sh fD cA (ixC hlt3) hui hug N6.1 N6.2)) ?_;refine rest2 true _ (λh=>by cases h) Y3 ?_;exact kq (zDm t1 t3 t4 t5 t7 t9 t19 t20 t21 t46 t47 (zDd t48 A0 B0))
      rw[ab (by rw[bB];exact c2)]at Y3;have c2:=bT c2;refine qS (zDm aw t1 t3 t7 t8 t9 A0 c0 c1 cj c2 (zDm j5 r1 m1 rx m2 er iO lj nK cB iF (zDm nM sh fD cA (ixC hlt3) hui hug N6.1 N6.2 (ixI hm0 hmn) (ixI L4 j7) (zDh U4 hcg hym.f3 hym.le3 hyt.f3 hyt.le3 hle)))) ?_;refine rest2 (!d) _ (λ_=>⟨hm0,hmn⟩) (last d Y3 rfl) ?_;exact kq (zDm t1 t3 t4 t5 t7 t9 t19 t20 t21 t46 t47 (zDd t48 A0 B0))
     clear hx hy Kx Ky;have hje:j=x.2.length:=aa;rw[hje,dD,iQ]at Y3;rw[hje,pn]at hS;rw[<-Y3,ab aE]at C0;rw[<-C0]at hr;refine qW A0 ?_;refine p2 _ _ (q1 _ _ ?_);refine qW (zDd A0 t21 N2) ?_;refine⟨lr.length-(i+1),aa,i+1,T++[x.1],S++x.2,bs,ps,rfl,D0,g6,aa,r1,rs,rp,hT,hS,hr,?_⟩;exact kq (zDj t1 t3 t4 t5 t19 t20 t21 A0 B0)
    exact kq (zDk t1 t3 t4 t5 t7 t19 t20 t21 A0 B0)
   clear hK;by_cases c0:x.1<0
   ·rw[ad c0]at hr;have c0:=cK c0;refine qS (zDi aw t7 A0 rx n4 iF cA c0) ?_;refine rest true _ (λh=>by cases h) hr ?_;exact kq (zDk t1 t3 t4 t5 t7 t19 t20 t21 A0 B0)
   rw[ab c0]at hr;by_cases c1:(lc.length:Int)<=x.1
   ·rw[ad c1]at hr;have c0:=bT c0;have c1:=cK c1;refine qS (zDk aw t3 t7 A0 rx n4 iF cA c0 c1) ?_;refine rest true _ (λh=>by cases h) hr ?_;exact kq (zDk t1 t3 t4 t5 t7 t19 t20 t21 A0 B0)
   rw[ab c1]at hr;have L4:0<=x.1:=aa;have j7:x.1<lc.length:=aa;have c0:=bT c0;have c1:=bT c1;refine qS (zDm aw t3 t4 t7 A0 rx n4 rs o1 iF cA (zDj sf c0 c1 nF (ixI L4 j7) bR (fits hT.1 L4 j7) Fl (hT.at L4 j7))) ?_;refine rest (T.any λy=>y==x.1) _ (λ_=>⟨L4,j7⟩) hr ?_;exact kq (zDk t1 t3 t4 t5 t7 t19 t20 t21 A0 B0)
  clear hx hy Kx Ky;have U2:i=lr.length:=aa;rw[U2,dD,goR]at hr;have bad:∀j:Nat,j<lc.length->((T.any λx=>x==(j:Int))&&S.any λx=>x==(j:Int))=true->false=r0:=λj hj h=>by rw[<-hr];exact(List.all_eq_false.2 ⟨j,List.mem_range.2 hj,by rw[h];decide⟩).symm
  have good:(∀j:Nat,j<lc.length->((T.any λx=>x==(j:Int))&&S.any λx=>x==(j:Int))=false)->true=r0:=λh=>by rw[<-hr];exact(List.all_eq_true.2 λj hj=>by rw[h j (List.mem_range.1 hj)];rfl).symm
  clear hr;refine qW A0 ?_;refine k2 _ _ ?_;clear k1 k2 k3 k4 K;refine qW (zDf aw t4 A0 Ug o1) ?_;refine R1.bJ λK k1 k2 k3 k4=>?_;refine R1.loop (λm A H4=>∃j:Nat,m=lc.length-j/\j<=lc.length/\H4=H3/\(∀j':Nat,j'<j->((T.any λx=>x==(j':Int))&&S.any λx=>x==(j':Int))=false)/\rV A (N+1) lc.length (N+2) lc.length (kO A 96 97 (.i .i64 (lc.length:Int)) (.i .i64 (j:Int)) 111 [])) ?_ lc.length
   ⟨0,rfl,Nat.zero_le _,rfl,λj' h=>absurd h (Nat.not_lt_zero _),?_⟩
  ·clear t1 t3 t4 t5 t19 t20 t21 A0 B0 A;rintro m A H4 ⟨j,rfl,hj,rfl,L2,t4,t5,t96,t97,A0,B0⟩;refine qW (zDe aw t96 t97 A0) ?_;refine qE λKx Ky hx hy=>?_;refine kG (λhc=>hx ?_) (λhc=>hy ?_)
   ·clear hx hy Kx Ky;have hlj:j<lc.length:=aa;have hwj:=bw j;have J7:j+1<=(bs.map AC.b).length:=by rw[cT,hT.1];exact hlj
    have hf2:j+1<=(ps.map AC.b).length:=by rw[cT,hS.1];exact hlj
    have e1:=hT.2 j hlj;have e2:=hS.2 j hlj;have hb0:=bad j hlj;have k8:((T.any λx=>x==(j:Int))&&S.any λx=>x==(j:Int))=false->∀j':Nat,j'<j+1->((T.any λx=>x==(j':Int))&&S.any λx=>x==(j':Int))=false:=λh j' z6=>by
     rcases Nat.lt_or_eq_of_le (Nat.le_of_lt_succ z6)with h'|h'
     ·exact L2 j' h'
     rw[h'];exact h
    generalize(T.any λx=>x==(j:Int))=d1 at e1 hb0 k8
    generalize(S.any λx=>x==(j:Int))=d2 at e2 hb0 k8
    refine qV ?_;refine R1.bJ λK2 q1 q2 q3 q4=>?_;refine qW (zDd aw t97 A0) ?_;cases d1 with
    |false=>refine qG (zDm aw t4 t97 A0 rs o1 nF sf (ixC hlj) bR J7 (qA Fl e1)) λK hK=>?_;apply hK;refine qY ?_;refine qW A0 ?_;refine q1 _ _ ?_;refine qW (zDd A0 t97 hwj) ?_;refine⟨lc.length-(j+1),aa,j+1,rfl,hlj,rfl,k8 rfl,?_⟩;exact kq (zDg t4 t5 t96 t97 A0 B0)
    |true=>
     refine qG (zDm aw t4 t5 t97 A0 rs o1 rp o2 nF sf (zDh (ixC hlj) bR J7 hf2 Fl e1 e2)) λK hK=>?_;apply hK;cases d2 with
     |true=>refine qY ?_;refine qW A0 ?_;exact q4 _ _ (k4 _ _ (fin (false) _ _ qp (qd B0) (g3) (hb0 rfl)))
     |false=>refine qY ?_;refine qW A0 ?_;refine q1 _ _ ?_;refine qW (zDd A0 t97 hwj) ?_;refine⟨lc.length-(j+1),aa,j+1,rfl,hlj,rfl,k8 rfl,?_⟩;exact kq (zDg t4 t5 t96 t97 A0 B0)
   clear hx hy Kx Ky;have hje:j=lc.length:=aa;rw[hje]at L2;refine qW A0 ?_;refine k2 _ _ ?_;refine qW A0 ?_;exact fin (true) _ _ qp (qd B0) (g3) (good L2)
  exact kq (zDe t4 t5 A0 B0)
 exact kq (zDg t1 t3 t4 t5 A0 B0)
def jX:Nat->List Rl->Int->Int
 |_,[],_=>-1
 |n,x::l,t=>if x.1=t then(n:Int)else jX (n+1) l t
def isT(l:List Rl)(t:Int):Bool:=l.any λx=>x.1==t
def OW:∀(n:Nat)(l:List Rl)(t:Int),isT l t=false->jX n l t=-1
 |_,[],_,_=>rfl
 |n,x::l,t,h=>by unfold isT at h;rw[List.any_cons,iz]at h;unfold jX;rw[ab (ne_of_beq_false h.1)];exact OW (n+1) l t h.2
def Ki:∀(n:Nat)(l:List Rl)(t:Int),isT l t=true->(n:Int)<=jX n l t/\jX n l t<(n:Int)+l.length
 |_,[],_,h=>by cases h
 |n,x::l,t,h=>by
  unfold jX;by_cases e:x.1=t
  ·rw[ad e,List.length_cons];omega
  rw[ab e];have h2:isT l t=true:=by unfold isT at h |-;rw[List.any_cons,aW e,Bool.false_or]at h;exact h
  have:=Ki (n+1) l t h2;rw[List.length_cons];omega
def Vw(l:List Rl)(t:Int):decide (0<=jX 0 l t)=isT l t:=by
 cases h:isT l t with
 |true=>exact aL (by have:=(Ki 0 l t h).1;omega)
 |false=>rw[OW 0 l t h];rfl
def vF(lc:List Cl)(t:Int):∀(l acc:List Int),iQ lc t acc l=true->∀m∈l,0<=m/\m<lc.length
 |[],_,_,_,h=>by cases h
 |m::l,acc,h,k,hk=>by
  rw[iQ]at h;by_cases c0:m<0
  ·rw[ad c0]at h;cases h
  rw[ab c0]at h;by_cases c1:(lc.length:Int)<=m
  ·rw[ad c1]at h;cases h
  rw[ab c1]at h;by_cases c2:DQ acc m=true
  ·rw[ad c2]at h;cases h
  rw[ab c2]at h;by_cases c3:sS lc m≠sS lc t
  ·rw[ad c3]at h;cases h
  rw[ab c3]at h;rcases List.mem_cons.1 hk with rfl|hk
  ·omega
  exact vF lc t l _ h k hk
def KV:aq prog 49=true:=ae
def nq:Option (List Lad)->Pz->Int
 |none,_=>1
 |some ls,p=>if(64:Int)<p.1.length then 3 else if(64:Int)<p.2.length then 3 else if goC (some ls) [] p.1≠0 then goC (some ls) [] p.1 else if goR p.1 [] [] p.2=false then 53 else 0
def HN(H:Hp)(k a b:AC)(o:Option (List Lad))(p:Pz)(hk:cM H k o)(hL:∀ls,o=some ls->∀x∈ls,x.2.length<=1000000)(ha:fJ H a p.1)(hb:fu H b p.2)(hB:PzB p):
  Con E2 49 [.one k,.agg [a,b]] H (λ_=>False) λr _=>r=.one (.i .i64 (nq o p)):=by
 refine Con.of rfl λlg=>?_;have hk:cM ⟨H.t,H.nx,lg⟩ k o:=cM.same (H:=H) rfl rfl hk;have ha:fJ ⟨H.t,H.nx,lg⟩ a p.1:=ha;have hb:fu ⟨H.t,H.nx,lg⟩ b p.2:=hb;generalize(⟨H.t,H.nx,lg⟩:Hp)=H at hk ha hb |-
 refine C1.fK 28 [.tmp 4] Tryz.func49 λtm h0 h1=>?_;have fin:=Ax E2 H 4 (nq o p);generalize E0:nq o p=r0 at fin;obtain⟨lc,lr⟩:=p;have hP:∀x∈lr,x.2.length<=4611686018427387904:=λx hx=>by have:=hB.p x hx;omega
 simp only at ha hb
 refine qG (zDd aw h0 h1) λK hK=>?_;apply hK;refine R1.gen (λA1 H1=>Gr H H1/\H.nx<H1.nx/\H1.get H.nx=some (.arr [a,b] 26 0 0)/\kO A1 0 3 (k) (.o (.ptr H.nx 0 0 2)) 28 [])
  ⟨(Fr.refl _).new _,?_⟩ ?_
 ·exact qZ h0
 rintro A1 H1 ⟨g1,m1,r1,t0,t3,A0,B0⟩;clear h0 h1 tm;have hk:=hk.gr g1;have ha:=ha.gr g1;have hb:=hb.gr g1;refine qG (zDe aw t0 A0 Pt) λK hK=>?_;refine WE.con (KO H1 k o hk hL) λw H2 g2 hw=>?_;subst hw;obtain⟨r1,m1⟩:=bq g2 m1 r1;have hk:=hk.gr g2;have ha:=ha.gr g2;have hb:=hb.gr g2;have g2:=g1.gr g2;clear g1;refine qS (qA aw A0) ?_;apply hK;cases o with
 |none=>
  repeat refine R1.aM ?_
  (first|refine R1.Ed λKx Ky hx hy=>?_|refine R1.CG λKx Ky hx hy=>?_);simp only[qB,bc,Nat.reduceLT,Nat.reduceEqDiff,Nat.reduceLeDiff,reduceIte,Nat.reduceAdd,Nat.reduceSub,Nat.reduceMul,Int.reduceLT,Int.reduceLE,Int.reduceBEq,Option.isNone]
  refine hx ?_;refine qW A0 ?_;exact fin (1) _ _ qp (qd B0) (g2) (E0)
 |some ls=>
 repeat refine R1.aM ?_
 (first|refine R1.Ed λKx Ky hx hy=>?_|refine R1.CG λKx Ky hx hy=>?_);simp only[qB,bc,Nat.reduceLT,Nat.reduceEqDiff,Nat.reduceLeDiff,reduceIte,Nat.reduceAdd,Nat.reduceSub,Nat.reduceMul,Int.reduceLT,Int.reduceLE,Int.reduceBEq,Option.isNone]
 refine hy ?_;refine R1.cq ?_;rw[nq]at E0;simp only at E0
 by_cases c1:(64:Int)<lc.length
 ·rw[ad c1]at E0;have c1:=cK c1;refine qG (zDl aw t3 A0 r1 m1 er iO lD ha.len ha.lt c1) λK hK=>?_;apply hK;refine qY ?_;refine qW A0 ?_;exact fin (3) _ _ qp (qd B0) (g2) (E0)
 rw[ab c1]at E0;by_cases c2:(64:Int)<lr.length
 ·rw[ad c2]at E0;have c1:=bT c1;have c2:=cK c2;refine qG (zDm aw t3 A0 r1 m1 er jG iO qK lD qM (zDg ha.len ha.lt hb.len hb.lt c1 c2)) λK hK=>?_;apply hK;refine qY ?_;refine qW A0 ?_;exact fin (3) _ _ qp (qd B0) (g2) (E0)
 rw[ab c2]at E0;have hC:lc.length<=1000000:=aa;have hR:lr.length<=1000000:=aa;have c1:=bT c1;have c2:=bT c2;refine qG (zDm aw t3 A0 r1 m1 er jG iO qK lD qM (zDg ha.len ha.lt hb.len hb.lt c1 c2)) λK hK=>?_;apply hK;refine qY ?_;refine R1.cq ?_;refine qG (zDj aw t0 t3 A0 r1 m1 er iO BN) λK hK=>?_;refine WE.con (zZ H2 k a (some ls) lc hk hL ha hC) λw H3 g3 hw=>?_;subst hw;obtain⟨r1,m1⟩:=bq g3 m1 r1;have ha:=ha.gr g3;have hb:=hb.gr g3;have g3:=g2.gr g3;refine qS (qA aw A0) ?_;apply hK;generalize goC (some ls) [] lc=e0 at E0 |-;by_cases S1:e0=0
 case neg=>have ce:(e0==0)=false:=aW S1;rw[ad S1]at E0;refine qW (zDd aw A0 ce) ?_;refine qY ?_;refine qW A0 ?_;exact fin (e0) _ _ qp (qd B0) (g3) (E0)
 rw[ab (λh=>h S1)]at E0;have ce:(e0==0)=true:=by rw[S1];rfl
 refine qW (zDd aw A0 ce) ?_;refine qY ?_;refine R1.cq ?_;refine qG (zDh aw t3 A0 r1 m1 wT BO) λK hK=>?_;refine WE.con (Aa H3 a b lc lr ha hb hC hR hP) λw H4 g4 hw=>?_;subst hw;have g4:=g3.gr g4;refine qS (qA aw A0) ?_;apply hK;cases hg:goR lc [] [] lr with
 |false=>rw[hg,ad rfl]at E0;refine qY ?_;refine qW A0 ?_;exact fin (53) _ _ qp (qd B0) (g4) (E0)
 |true=>rw[hg,ab (by decide:¬(true=false))]at E0;refine qY ?_;refine qW A0 ?_;exact fin (0) _ _ qp (qd B0) (g4) (E0)
def pU{o:Option (List Lad)}{p:Pz}(h:nq o p=0):∃ls,o=some ls/\p.1.length<=64/\p.2.length<=64/\goC o [] p.1=0/\goR p.1 [] [] p.2=true:=by
 cases o with
 |none=>rw[nq]at h;cases h
 |some ls=>
  rw[nq]at h;refine⟨ls,rfl,?_⟩;by_cases c1:(64:Int)<p.1.length
  ·rw[ad c1]at h;cases h
  rw[ab c1]at h;by_cases c2:(64:Int)<p.2.length
  ·rw[ad c2]at h;cases h
  rw[ab c2]at h;by_cases c3:goC (some ls) [] p.1≠0
  ·rw[ad c3]at h;exact absurd h c3
  rw[ab c3]at h;refine⟨aa,aa,Classical.not_not.1 c3,?_⟩;cases hg:goR p.1 [] [] p.2 with
  |true=>rfl
  |false=>rw[hg,ad rfl]at h;cases h
def uW{o:Option (List Lad)}:∀{l acc:List Cl},goC o acc l=0->∀x∈l,sU o x.2.2.1=0
 |[],_,_,_,h=>by cases h
 |x::l,acc,h,y,hy=>by
  rw[goC]at h;by_cases c0:x.1<0
  ·rw[ad c0]at h;cases h
  rw[ab c0]at h;by_cases c1:255<x.1
  ·rw[ad c1]at h;cases h
  rw[ab c1]at h;by_cases c2:OE acc x=true
  ·rw[ad c2]at h;cases h
  rw[ab c2]at h;by_cases c3:nmB x.2.1=false
  ·rw[ad c3]at h;cases h
  rw[ab c3]at h;by_cases c4:sU o x.2.2.1≠0
  ·rw[ad c4]at h;cases h
  rw[ab c4]at h;by_cases c5:te x.2.2.2≠0
  ·rw[ad c5]at h;exact absurd h c5
  rw[ab c5]at h;rcases List.mem_cons.1 hy with rfl|hy
  ·exact Classical.not_not.1 c4
  exact uW h y hy
open Go Go.Eng Go.ChangeShapes Go.WideShapes
abbrev ZE:=lM (Ly .i64) (lM Mo Sz)
abbrev Iu:=Gg prog 209 3 ZE
abbrev XC:=lM Iu Iu
abbrev Nr:=lM (Ly .i64) (lM Mo (lM Mo XC))
abbrev EW:=Gg prog 58 5 Nr
abbrev IE:=Gg prog 3 1 (Ly .i64)
abbrev OM:=lM (Ly .i64) IE
abbrev FW:=Gg prog 82 2 OM
abbrev vH:=lM EW FW
def Ol:kU ZE:=fC jx (fC ib Un)
def Ba:kU Iu:=sn Ol
def Xq:kU XC:=fC Ba Ba
def Jf:kU Nr:=fC jx (fC ib (fC ib Xq))
def wV:kU EW:=sn Jf
def Uo:kU IE:=sn jx
def Jh:kU OM:=fC jx Uo
def Qy:kU FW:=sn Jh
def XE{W:World}:Opn prog W 3 ZE 209:=fU Tryz.underlying209 ae rfl (eh (vD Tryz.underlying3) jx (eh (vE Tryz.underlying9) ib (jJ (UB Tryz.underlying4))))
def Jv{W:World}(hB:sQ W):Opn prog W 1 Iu 54:=kR Tryz.underlying54 ae aE Ol hB XE
def XG{W:World}(hB:sQ W):Opn prog W 2 XC 56:=fU Tryz.underlying56 ae rfl (eh (Jv hB) Ba (jJ (Jv hB)))
def UD{W:World}(hB:sQ W):Opn prog W 5 Nr 58:=fU Tryz.underlying58 ae rfl (eh (vD Tryz.underlying3) jx (eh (vE Tryz.underlying9) ib (eh (vE Tryz.underlying9) ib (jJ (XG hB)))))
def QG{W:World}(hB:sQ W):Opn prog W 1 EW 23:=kR Tryz.underlying23 ae aE Jf hB (UD hB)
def Jw{W:World}(hB:sQ W):Opn prog W 1 IE 27:=kR Tryz.underlying27 ae aE jx hB (vD Tryz.underlying3)
def UF{W:World}(hB:sQ W):Opn prog W 2 OM 82:=fU Tryz.underlying82 ae rfl (eh (vD Tryz.underlying3) jx (jJ (Jw hB)))
def QH{W:World}(hB:sQ W):Opn prog W 1 FW 24:=kR Tryz.underlying24 ae aE Jh hB (UF hB)
def LN{W:World}(hB:sQ W):Opn prog W 2 vH 26:=fU Tryz.underlying26 ae rfl (eh (QG hB) wV (jJ (QH hB)))
def Ju{W:World}:GU prog W 2 vH 26:=xO Tryz.underlying26 ae rfl (tP (oQ Tryz.underlying23) wV (DF (oQ Tryz.underlying24)))
def HH:prog.bytesOf 209=32:=ae
def ET:prog.bytesOf 58=88:=ae
def HI:prog.bytesOf 3=8:=ae
def EU:prog.bytesOf 82=32:=ae
def NT{B:Nat}{H:Hp}{c:List AC}{us:List Gp}(h:Iu B H c us):∃u,c=[u]/\jA H u us/\us.length*32<=B:=by obtain⟨u,rfl,⟨css,h1,h2⟩,h3⟩:=h;refine⟨u,rfl,?_,by rwa [HH]at h3⟩;have:=yh (f:=gpC) (h2.mono λc x⟨_,c1,c2,e,a,c3,c4,e2,b,d⟩=>by rw[e,a.1,e2,b.1,d];rfl);rw[this]at h1;exact h1
def NX{B:Nat}{H:Hp}{c:List AC}{us:List Int}(h:IE B H c us):∃u,c=[u]/\SlI H u us/\us.length*8<=B:=by obtain⟨u,rfl,⟨css,h1,h2⟩,h3⟩:=h;refine⟨u,rfl,?_,by rwa [HI]at h3⟩;have:=yh (f:=BX) (h2.mono λc x⟨_,e,_⟩=>e);rw[this]at h1;exact h1
def ZS{B:Nat}{H:Hp}{c:List AC}{x:Nm}(h:XC B H c x):∃p q,c=[p,q]/\jA H p x.1/\jA H q x.2/\x.1.length*32<=B/\x.2.length*32<=B:=by obtain⟨c1,c2,rfl,h1,h2⟩:=h;obtain⟨p,rfl,a1,a2⟩:=NT h1;obtain⟨q,rfl,b1,b2⟩:=NT h2;exact⟨p,q,rfl,a1,b1,a2,b2⟩
def cell_of{B:Nat}{H:Hp}{c:List AC}{x:Cl}(h:Nr B H c x):ClR H c x/\x.2.2.2.1.length*32<=B/\x.2.2.2.2.length*32<=B:=by obtain⟨c1,c2,rfl,a,c3,c4,rfl,b,c5,c6,rfl,d,e⟩:=h;obtain⟨p,q,rfl,e1,e2,e3,e4⟩:=ZS e;exact⟨⟨p,q,by rw[a.1,b.1,d.1];rfl,e1,e2⟩,e3,e4⟩
def SE{B:Nat}{H:Hp}{c:List AC}{l:List Cl}(h:EW B H c l):∃u,c=[u]/\fJ H u l/\l.length*88<=B/\∀x∈l,x.2.2.2.1.length*32<=B/\x.2.2.2.2.length*32<=B:=by obtain⟨u,rfl,⟨css,h1,h2⟩,h3⟩:=h;exact⟨u,rfl,⟨css,h1,h2.mono λc x⟨hl,h⟩=>⟨hl,(cell_of h).1⟩⟩,by rwa [ET]at h3,Al.all (λc x⟨_,h⟩=>(cell_of h).2) h2⟩
def Vg{B:Nat}{H:Hp}{c:List AC}{l:List Rl}(h:FW B H c l):∃u,c=[u]/\fu H u l/\l.length*32<=B/\∀x∈l,x.2.length*8<=B:=by
 obtain⟨u,rfl,⟨css,h1,h2⟩,h3⟩:=h;have key:∀c x,OM B H c x->RlR H c x/\x.2.length*8<=B:=λc x⟨c1,c2,e,a,b⟩=>by obtain⟨u,rfl,b1,b2⟩:=NX b;exact⟨⟨u,by rw[e,a.1];rfl,b1⟩,b2⟩
 exact⟨u,rfl,⟨css,h1,h2.mono λc x⟨hl,h⟩=>⟨hl,(key c x h).1⟩⟩,by rwa [EU]at h3,Al.all (λc x⟨_,h⟩=>(key c x h).2) h2⟩
def aa4{B:Nat}{H:Hp}{c:List AC}{p:Pz}(hB:B<=140737488355328)(h:vH B H c p):∃a b,c=[a,b]/\fJ H a p.1/\fu H b p.2/\PzB p:=by obtain⟨c1,c2,rfl,h1,h2⟩:=h;obtain⟨a,rfl,a1,a2,a3⟩:=SE h1;obtain⟨b,rfl,b1,b2,b3⟩:=Vg h2;exact⟨a,b,rfl,a1,b1,⟨aD a2 hB,aD b2 hB,λx hx=>⟨aD (a3 x hx).1 hB,aD (a3 x hx).2 hB⟩,λx hx=>aD (b3 x hx) hB⟩⟩
def CH:bV prog 229=some (35,1):=ae
def Du:kI prog 229=some 1:=ae
def Oc:loadT prog 63=some (true,3):=ae
def Pa:cD prog 63=some 3:=ae
def Wx:dA prog 63=some 32:=ae
def GO:(ba prog 63).map (λz=>(ofValue z).cells)=some [.i .i64 0,.o (.str []),.i .i64 0]:=ae
def Pk:∃z,ba prog 63=some z/\(ofValue z).cells.length=3:=by
 have h:=GO;cases hz:ba prog 63 with
 |none=>rw[hz]at h;cases h
 |some z=>rw[hz]at h;exact⟨z,rfl,by have:(ofValue z).cells=_:=dX h;rw[this];rfl⟩
def CT:bK prog 63 0=some (0,3,1):=ae
def CU:bK prog 63 2=some (2,3,1):=ae
def yH:Nat->Option (Nat×Nat):=λi=>(#[(0,1),(1,1),(2,1)]:Array (Nat×Nat))[i]?
def OG:iR prog 63=some yH:=ae
def DM:yH 0=some (0,1):=rfl
def DN:yH 1=some (1,1):=rfl
def DO:yH 2=some (2,1):=rfl
def IT:loadT prog 30=some (false,1):=ae
def HG:dA prog 30=some 24:=ae
def BI:(ba prog 30).map (λz=>(ofValue z).cells)=some [.o .nilS]:=ae
def VU:∃z,ba prog 30=some z/\(ofValue z).cells.length=1:=by
 have h:=BI;cases hz:ba prog 30 with
 |none=>rw[hz]at h;cases h
 |some z=>rw[hz]at h;exact⟨z,rfl,by have:(ofValue z).cells=_:=dX h;rw[this];rfl⟩
def pX:bV prog 30=some (80,4):=ae
def IZ:kI prog 30=some 1:=ae
def Hi:dp prog 30=1:=ae
def TU:loadT prog 80=some (true,4):=ae
def Vy:cD prog 80=some 4:=ae
def Le:dA prog 80=some 32:=ae
def MB:(ba prog 80).map (λz=>(ofValue z).cells)=some [.i .i64 0,.i .i64 0,.i .i64 0,.i .i64 0]:=ae
def ME:∃z,ba prog 80=some z/\(ofValue z).cells.length=4:=by
 have h:=MB;cases hz:ba prog 80 with
 |none=>rw[hz]at h;cases h
 |some z=>rw[hz]at h;exact⟨z,rfl,by have:(ofValue z).cells=_:=dX h;rw[this];rfl⟩
def Ih:bK prog 80 0=some (0,3,1):=ae
def Ii:bK prog 80 1=some (1,3,1):=ae
def Ij:bK prog 80 2=some (2,3,1):=ae
def Ik:bK prog 80 3=some (3,3,1):=ae
def Bl:Nat->Option (Nat×Nat):=λi=>(#[(0,1),(1,1),(2,1),(3,1)]:Array (Nat×Nat))[i]?
def UP:iR prog 80=some Bl:=ae
def Jz:Bl 0=some (0,1):=rfl
def JA:Bl 1=some (1,1):=rfl
def JB:Bl 2=some (2,1):=rfl
def JC:Bl 3=some (3,1):=rfl
def abt:bK prog 29 0=some (0,22,1):=ae
def abu:bK prog 29 1=some (1,26,2):=ae
def abv:bK prog 29 2=some (3,27,1):=ae
def Ub:loadT prog 153=some (false,1):=ae
def Oa:loadT prog 29=some (true,4):=ae
def OY:cD prog 29=some 4:=ae
def Pg:(ba prog 29).map (λz=>(ofValue z).cells)=some [.o .nilS,.o .nilS,.o .nilS,.o .nilS]:=ae
def MT:dp prog 29=4:=ae
def CM:bK prog 29 0=some (0,22,1):=ae
def CO:bK prog 29 1=some (1,26,2):=ae
def CP:bK prog 29 2=some (3,27,1):=ae
def FC:loadT prog 160=some (false,1):=ae
def Gn:cD prog 160=some 1:=ae
def GQ:(ba prog 160).map (λz=>(ofValue z).cells)=some [.i .u64 0]:=ae
def mQ:prog.underlying 160=some (.int .u64):=ae
def EE:dp prog 160=4:=ae
def FB:loadT prog 172=some (false,1):=ae
def Gm:cD prog 172=some 1:=ae
def GP:(ba prog 172).map (λz=>(ofValue z).cells)=some [.i .u64 0]:=ae
def jY:prog.underlying 172=some (.int .u64):=ae
def ED:dp prog 172=4:=ae
def yz:loadT prog 256=some (false,1):=ae
def yQ:cD prog 256=some 1:=ae
def zq:(ba prog 256).map (λz=>(ofValue z).cells)=some [.i .u64 0]:=ae
def Pe:prog.underlying 256=some (.int .u64):=ae
def yg:dp prog 256=4:=ae
def Oe:loadT prog 5=some (false,1):=ae
def fH:prog.underlying 5=some (.int .u8):=ae
def MW:dp prog 5=4:=ae
def IV:loadT prog 59=some (false,1):=ae
def Kq:cD prog 59=some 1:=ae
def KK:(ba prog 59).map (λz=>(ofValue z).cells)=some [.o .nilS]:=ae
def An:bV prog 59=some (63,3):=ae
def Ja:kI prog 59=some 1:=ae
def by_cases:dA prog 89=some 24:=ae
def tyF:=zDm aw cB cA BA xk RV vf wx Hh vh sF (zDm pt cF cW cY jD eR gM mO iA cX oH (zDm yP gm zA sh Gk Ph fD FE MV wT er (zDm jG iO lj lD Fy Gj GL nK qK Am qM (zDm FA Gl GN iF nM CH Du Oc Pa GO CT (zDm CU OG DM DN DO IT BI pX IZ Hi TU (zDm Vy MB Ih Ii Ij Ik UP Jz JA JB JC (zDe abt abu abv Ub)))))))
def uD:aq prog 27=true:=ae
def bL(v:List Int):Int->List Int->Int
 |n,[]=>n
 |n,i::l=>bL v (IntKind.i64.wrap (n+v.getD i.toNat 0)) l
def sE(H:Hp)(u w:AC)(t:Int)(ps v:List Int)(hu:SlI H u ps)(hw:SlI H w v)(hi:∀i∈ps,0<=i/\i<v.length)(hL:ps.length<=4611686018427387904):
  Con E2 27 [.agg [.i .i64 t,u],.one w] H (λ_=>False) λr _=>r=.one (.i .i64 (bL v 0 ps)):=by
 refine Con.iM (λH=>SlI H u ps) hu (λH=>SlI H w v) hw λH hu hw=>?_;refine C1.fK 23 [.tmp 4] Tryz.func27 λtm h0 h1=>?_;have fin:=Ax E2 H 4 (bL v 0 ps);generalize E0:bL v 0 ps=r0 at fin;refine zG tyF λK hK=>?_;apply hK.out;refine R1.gen (λA1 H1=>Gr H H1/\H.nx<H1.nx/\H1.get H.nx=some (.arr [.i .i64 t,u] 82 0 0)/\slot A1.tm 1=.one (w)/\iB A1 H.nx (A1.nt=23/\A1.dfr=[])) ⟨(Fr.refl _).new _,aZ _,aJ rfl,zL⟩ ?_;rintro A1 H1 ⟨g1,m1,rx,t1,t2,A0,B0⟩;clear h0 h1 tm hK K;have hu:=hu.gr g1;have hw:=hw.gr g1;have l1:=hu.len;have l2:=hu.lt;refine zW tyF ?_;refine R1.ed λK k1 k2 k3 k4=>?_;refine R1.loop (λm A H2=>∃(i:Nat)(n:Int),m=ps.length-i/\i<=ps.length/\H2=H1/\bL v n (ps.drop i)=r0/\gU A.tm 1 5 9 (w) (.i .i64 (n:Int)) (u) (jc A ps.length i (A.nt=23/\A.dfr=[]))) ?_ ps.length ⟨0,0,rfl,Nat.zero_le _,rfl,E0,zL⟩;clear t1 t2 A0 B0 A1;rintro m A H2 ⟨i,n,rfl,Z4,rfl,hr,t1,t5,t9,t10,t11,A0,B0⟩;refine zW tyF ?_;refine zI tyF (λhc=>?_) (λhc=>?_)
 ·have D0:i<ps.length:=aa;have ex:=aO D0;have S0:=List.drop_eq_getElem_cons D0;have Y2:=dK D0;have I0:=cU D0;generalize ps[i]=x at ex S0 Y2 I0;have N2:=bw i;obtain⟨L4,j7⟩:=hi x I0;obtain⟨id,g,off,cells,rfl,hid,B2,Q0⟩:=hu.open aa;obtain⟨id',g',off',cells',rfl,Q7,hgr',hat'⟩:=hw.open aa;obtain⟨e1,e2⟩:=Q0 i x ex;have ev:v[x.toNat]?=some (v.getD x.toNat 0):=by rw[bt,aO aa];rfl
  obtain⟨e3,e4⟩:=hat' _ _ ev;rw[S0,bL]at hr;clear Q0 hat';refine zW tyF ?_;refine R1.ed λK2 q1 q2 q3 q4=>?_;refine zW (zDd tyF (ixC D0) (ixI L4 j7)) ?_;apply q1.out;refine zW tyF ?_;exact⟨ps.length-(i+1),aa,i+1,_,rfl,D0,rfl,hr,zL⟩
 have U2:i=ps.length:=aa;refine zW tyF ?_;apply k2.out;refine zW tyF ?_;rw[U2,dD,bL]at hr;exact fin (n) _ _ qp qe (g1) (hr)
def Hy:aq prog 99=true:=ae
def Hz:aq prog 50=true:=ae
def Sj:aq prog 98=true:=ae
def Wj:aq prog 142=true:=ae
def kV:aq prog 23=true:=ae
def ma(n:Int):Bool:=decide (n<1)||decide (1099511627776<n)
def BV:Nat->List Int->Int
 |_,[]=>-1
 |n,x::l=>if ma x=true then(n:Int)else BV (n+1) l
def IA:∀(l:List Int)(n:Nat),decide (0<=BV n l)=l.any ma
 |[],_=>rfl
 |x::l,n=>by
  rw[BV,List.any_cons];cases h:ma x with
  |true=>rw[ad rfl,Bool.true_or];exact aL aa
  |false=>rw[ab zA8,Bool.false_or];exact IA l (n+1)
def KD(H:Hp)(n:Int):Con E2 99 [.one (.i .i64 n)] H (λ_=>False) λr _=>r=.one (.b (ma n)):=by
 refine Con.nO λH=>?_;refine C1.jf 9 [.tmp 2] Tryz.func99 λtm h0=>?_;have fin:=Tq E2 H 2 (ma n);generalize E0:ma n=r0 at fin;unfold ma at E0;by_cases c0:n<1
 ·refine zW tyF ?_;exact fin (true) _ _ qp qe (Fr.refl _) ((by rw[aL c0,Bool.true_or]at E0;exact E0))
 refine zW tyF ?_;exact fin ((decide (1099511627776<n))) _ _ qp qe (Fr.refl _) ((by rw[aV c0,Bool.false_or]at E0;exact E0))
def Tw(H:Hp)(v:AC)(l:List Int)(hv:SlI H v l)(hL:l.length<=4611686018427387904):
  Con E2 142 [.one v,.one (.o (.clo 99 []))] H (λ_=>False) λr _=>r=.one (.i .i64 (BV 0 l)):=by
 refine Con.qw (λH=>SlI H v l) hv λH hv=>?_;refine C1.fK 19 [.tmp 4] Tryz.func142 λtm h0 h1=>?_;have fin:=Ax E2 H 4 (BV 0 l);generalize E0:BV 0 l=r0 at fin;have l1:=hv.len;have l2:=hv.lt;refine zW tyF ?_;refine R1.ed λK k1 k2 k3 k4=>?_;refine R1.loop (λm A H2=>∃i:Nat,m=l.length-i/\i<=l.length/\Gr H H2/\BV i (l.drop i)=r0/\ko A.tm 0 1 (v) (.o (.clo 99 [])) (gT A l.length (fI A i (A.nt=19/\A.dfr=[])))) ?_ l.length ⟨0,rfl,Nat.zero_le _,Fr.refl _,E0,zL⟩;clear h0 h1 tm l1 l2;rintro m A H2 ⟨i,rfl,Z4,g2,hr,t0,t1,t7,t8,A0,B0⟩;refine zW tyF ?_;refine zI tyF (λhc=>?_) (λhc=>?_)
 ·have D0:i<l.length:=aa;have ex:=aO D0;have S0:=List.drop_eq_getElem_cons D0;have Y2:=dK D0;have I0:=cU D0;generalize l[i]=x at ex S0 Y2 I0;have N2:=bw i;obtain⟨id,g,off,cells,rfl,hid,B2,Q0⟩:=(hv.gr g2).open aa;obtain⟨e1,e2⟩:=Q0 i x ex;rw[S0,BV]at hr;clear Q0;refine zW tyF ?_;refine R1.ed λK2 q1 q2 q3 q4=>?_;refine zW tyF ?_;refine zG (zDd tyF (ixC D0) Hy) λK3 L7=>?_;refine WE.con (KD H2 x) λw H4 g4 hw=>?_;subst hw;have g4:=g2.gr g4;cases hb:ma x with
  |true=>refine zK tyF ?_;exact q4.out _ _ (k4.out _ _ (fin ((i:Int)) _ _ qp qe (g4) ((by rw[ad hb]at hr;exact hr))))
  |false=>refine zK tyF ?_;rw[ab (by rw[hb];exact zA8)]at hr;apply q1.out;refine zW tyF ?_;exact⟨l.length-(i+1),aa,i+1,rfl,D0,g4,hr,zL⟩
 have U2:i=l.length:=aa;refine zW tyF ?_;apply k2.out;refine zW tyF ?_;rw[U2,dD,BV]at hr;exact fin (-1) _ _ qp qe (g2) (hr)
def PJ(H:Hp)(v:AC)(l:List Int)(hv:SlI H v l)(hL:l.length<=4611686018427387904):
  Con E2 98 [.one v,.one (.o (.clo 99 []))] H (λ_=>False) λr _=>r=.one (.b (l.any ma)):=by
 refine Con.qw (λH=>SlI H v l) hv λH hv=>?_;refine C1.fK 9 [.tmp 4] Tryz.func98 λtm h0 h1=>?_;have fin:=Tq E2 H 4 (l.any ma);generalize E0:l.any ma=r0 at fin;refine zW tyF ?_;refine zG (qA tyF Wj) λK hK=>?_;refine WE.con (Tw H v l hv hL) λw H4 g4 hw=>?_;subst hw;refine zK tyF ?_;exact fin ((decide (0<=BV 0 l))) _ _ qp qe (g4) ((IA l 0).trans E0)
def vS(lc:List Cl)(v:List Int):Bool:=((v.length:Int)==(lc.length:Int))&&!(v.any ma)
def Ce(H:Hp)(a b w:AC)(lc:List Cl)(v:List Int)(ha:fJ H a lc)(hw:SlI H w v)(hL:v.length<=4611686018427387904):
  Con E2 50 [.agg [a,b],.one w] H (λ_=>False) λr _=>r=.one (.b (vS lc v)):=by
 refine Con.iM (λH=>fJ H a lc) ha (λH=>SlI H w v) hw λH ha hw=>?_;refine C1.fK 16 [.tmp 4] Tryz.func50 λtm h0 h1=>?_;have fin:=Tq E2 H 4 (vS lc v);generalize E0:vS lc v=r0 at fin;unfold vS at E0;refine zG tyF λK hK=>?_;apply hK.out;refine R1.gen (λA1 H1=>Gr H H1/\H.nx<H1.nx/\H1.get H.nx=some (.arr [a,b] 26 0 0)/\slot A1.tm 1=.one (w)/\iB A1 H.nx (A1.nt=16/\A1.dfr=[])) ⟨(Fr.refl _).new _,aZ _,aJ rfl,zL⟩ ?_;rintro A1 H1 ⟨g1,m1,rx,t1,t2,A0,B0⟩;clear h0 h1 tm hK K;have ha:=ha.gr g1;have hw:=hw.gr g1;have l1:=ha.len;have l2:=ha.lt;have l3:=hw.len;have l4:=hw.lt;cases hc:((v.length:Int)==(lc.length:Int))with
 |false=>refine zW tyF ?_;exact fin (false) _ _ qp qe (g1) ((by rw[hc,Bool.false_and]at E0;exact E0))
 |true=>refine zG (qA tyF Sj) λK hK=>?_;refine WE.con (PJ H1 w v hw hL) λw H4 g4 hw=>?_;subst hw;refine zK tyF ?_;exact fin ((!(v.any ma))) _ _ qp qe (g1.gr g4) ((by rw[hc,Bool.true_and]at E0;exact E0))
def fO(o:Option (List Lad))(p:Pz)(v:List Int):Int:=if nq o p≠0 then nq o p else if vS p.1 v=false then 54 else 0
def jR(H:Hp)(k a b w:AC)(o:Option (List Lad))(p:Pz)(v:List Int)(hk:cM H k o)(hL:∀ls,o=some ls->∀x∈ls,x.2.length<=1000000)(ha:fJ H a p.1)(hb:fu H b p.2)(hB:PzB p)(hw:SlI H w v)(hV:v.length<=4611686018427387904):
  Con E2 23 [.one k,.agg [a,b],.one w] H (λ_=>False) λr _=>r=.one (.i .i64 (fO o p v)):=by
 refine Con.of rfl λlg=>?_;have hk:cM ⟨H.t,H.nx,lg⟩ k o:=cM.same (H:=H) rfl rfl hk;have ha:fJ ⟨H.t,H.nx,lg⟩ a p.1:=ha;have hb:fu ⟨H.t,H.nx,lg⟩ b p.2:=hb;have hw:SlI ⟨H.t,H.nx,lg⟩ w v:=hw;generalize(⟨H.t,H.nx,lg⟩:Hp)=H at hk ha hb hw |-
 refine C1.HA 18 [.tmp 6] Tryz.func23 λtm h0 h1 h2=>?_;have fin:=Ax E2 H 6 (fO o p v);generalize E0:fO o p v=r0 at fin;unfold fO at E0;refine zG tyF λK hK=>?_;apply hK.out;refine R1.gen (λA1 H1=>Gr H H1/\H.nx<H1.nx/\H1.get H.nx=some (.arr [a,b] 26 0 0)/\pF A1 0 2 4 (k) (w) (.o (.ptr H.nx 0 0 2)) 18 []) ⟨(Fr.refl _).new _,aZ _,aJ rfl,zL⟩ ?_;rintro A1 H1 ⟨g1,m1,rx,t0,t2,t4,A0,B0⟩;clear h0 h1 h2 tm hK K;have hk:=hk.gr g1;have ha:=ha.gr g1;have hb:=hb.gr g1;have hw:=hw.gr g1;refine zG (qA tyF KV) λK hK=>?_;refine WE.con (HN H1 k a b o p hk hL ha hb hB) λw' H2 g2 hq=>?_;subst hq;obtain⟨rx,m1⟩:=bq g2 m1 rx;have ha:=ha.gr g2;have hw:=hw.gr g2;have g2:=g1.gr g2;clear g1;generalize nq o p=e0 at E0;by_cases S1:e0=0
 case neg=>have ce:(e0==0)=false:=aW S1;refine zK tyF ?_;exact fin (e0) _ _ qp qe (g2) ((by rw[ad S1]at E0;exact E0))
 rw[ab (λh=>h S1)]at E0;have ce:(e0==0)=true:=by rw[S1];rfl
 refine zK tyF ?_;refine zG (qA tyF Hz) λK hK=>?_;refine WE.con (Ce H2 a b w p.1 v ha hw hV) λw' H3 g3 hq=>?_;subst hq;have g3:=g2.gr g3;cases hv:vS p.1 v with
 |false=>refine zK tyF ?_;exact fin (54) _ _ qp qe (g3) ((by rw[ad hv]at E0;exact E0))
 |true=>refine zK tyF ?_;exact fin (0) _ _ qp qe (g3) ((by rw[hv,ab (by decide:¬(true=false))]at E0;exact E0))
def Sw:aq prog 10=true:=ae
def pb(v:List Int):Nat->List Int->List Rl->List Int
 |_,acc,[]=>acc
 |i,acc,x::l=>pb v (i+1) (if bL v 0 x.2=v.getD x.1.toNat 0 then acc else acc++[(i:Int)]) l
def fk(o:Option (List Lad))(p:Pz)(v:List Int):List Int×Int:=if fO o p v≠0 then([],fO o p v)else(pb v 0 [] p.2,0)
def Df{lc:List Cl}:∀{lr:List Rl}{T S:List Int},goR lc T S lr=true->∀x∈lr,(0<=x.1/\x.1<lc.length)/\∀m∈x.2,0<=m/\m<lc.length
 |[],_,_,_,_,h=>by cases h
 |y::lr,T,S,h,x,hx=>by
  rw[goR]at h;by_cases c0:y.1<0
  ·rw[ad c0]at h;cases h
  rw[ab c0]at h;by_cases c1:(lc.length:Int)<=y.1
  ·rw[ad c1]at h;cases h
  rw[ab c1]at h;cases c2:T.any (λz=>z==y.1)with
  |true=>rw[c2,ad rfl]at h;cases h
  |false=>
  rw[c2,ab zA8]at h;cases c3:iQ lc y.1 [] y.2 with
  |false=>rw[c3,ad rfl]at h;cases h
  |true=>
  rw[c3,ab (by decide:¬(true=false))]at h;rcases List.mem_cons.1 hx with rfl|hx
  ·exact⟨⟨aa,aa⟩,vF lc _ _ [] c3⟩
  exact Df h x hx
def ou{o:Option (List Lad)}{p:Pz}{v:List Int}(h:fO o p v=0):p.1.length<=64/\p.2.length<=64/\v.length=p.1.length/\nq o p=0/\∀x∈p.2,(0<=x.1/\x.1<v.length)/\∀m∈x.2,0<=m/\m<v.length:=by
 unfold fO at h;by_cases c0:nq o p≠0
 ·rw[ad c0]at h;exact absurd h c0
 rw[ab c0]at h;have c0:=Classical.not_not.1 c0;obtain⟨_,_,h1,h2,_,h4⟩:=pU c0;cases hv:vS p.1 v with
 |false=>rw[ad hv]at h;cases h
 |true=>
  unfold vS at hv;rw[aT]at hv;have hl:v.length=p.1.length:=by have:=eq_of_beq hv.1;omega
  exact⟨h1,h2,hl,c0,by rw[hl];exact Df h4⟩
def Rt(H:Hp)(k a b w:AC)(o:Option (List Lad))(p:Pz)(v:List Int)(hk:cM H k o)(hL:∀ls,o=some ls->∀x∈ls,x.2.length<=1000000)(ha:fJ H a p.1)(hb:fu H b p.2)(hB:PzB p)(hw:SlI H w v)(hV:v.length<=4611686018427387904):
  Con E2 10 [.one k,.agg [a,b],.one w] H (λ_=>False) λr H'=>∃c,r=.tup [(false,[c]),(false,[.i .i64 (fk o p v).2])]/\SlI H' c (fk o p v).1:=by
 refine Con.of rfl λlg=>?_;have hk:cM ⟨H.t,H.nx,lg⟩ k o:=cM.same (H:=H) rfl rfl hk;have ha:fJ ⟨H.t,H.nx,lg⟩ a p.1:=ha;have hb:fu ⟨H.t,H.nx,lg⟩ b p.2:=hb;have hw:SlI ⟨H.t,H.nx,lg⟩ w v:=hw;generalize(⟨H.t,H.nx,lg⟩:Hp)=H at hk ha hb hw |-
 refine C1.HA 42 [.tmp 6,.tmp 7] Tryz.func10 λtm h0 h1 h2=>?_;generalize E0:fk o p v=r0;have fin:=finS E2 SlI H 6 7 r0;unfold fk at E0;refine zG tyF λK hK=>?_;apply hK.out;refine R1.gen (λA1 H1=>Gr H H1/\H.nx<H1.nx/\H1.get H.nx=some (.arr [a,b] 26 0 0)/\pF A1 0 2 4 (k) (w) (.o (.ptr H.nx 0 0 2)) 42 []) ⟨(Fr.refl _).new _,aZ _,aJ rfl,zL⟩ ?_;rintro A1 H1 ⟨g1,m1,rx,t0,t2,t4,A0,B0⟩;clear h0 h1 h2 tm hK K;have hk:=hk.gr g1;have ha:=ha.gr g1;have hb:=hb.gr g1;have hw:=hw.gr g1;refine zG (qA tyF kV) λK hK=>?_;refine WE.con (jR H1 k a b w o p v hk hL ha hb hB hw hV) λw' H2 g2 hq=>?_;subst hq;obtain⟨rx,m1⟩:=bq g2 m1 rx;have hb:=hb.gr g2;have hw:=hw.gr g2;have g2:=g1.gr g2;clear g1 hk ha;have G0:=@ou o p v;generalize fO o p v=e0 at E0 G0;by_cases S1:e0=0
 case neg=>have ce:(e0==0)=false:=aW S1;refine zK tyF ?_;exact fin (.o .nilS) (e0) _ _ qp qp qe (g2) (⟨by rw[<-E0,ad S1];exact SlI.nil,by rw[<-E0,ad S1]⟩)
 rw[ab (λh=>h S1)]at E0;obtain⟨hC,hR,U1,_,hrg⟩:=G0 S1;clear G0;have hP:=hB.p;obtain⟨lc,lr⟩:=p;simp only at E0 hb hC hR U1 hrg hP
 clear U1;have ce:(e0==0)=true:=by rw[S1];rfl
 obtain⟨N,hN⟩:=dZ H.nx;rw[<-hN]at m1 rx t4;clear hN;obtain⟨zi,hzi,hzil⟩:=BK;have l1:=hb.len;have l2:=hb.lt;refine zK tyF ?_;refine R1.ed λK k1 k2 k3 k4=>?_;refine R1.loop (λm A H3=>∃(i:Nat)(out:List Int)(u:AC)(r:Option Nat),m=lr.length-i/\i<=lr.length/\out.length<=i/\Gr H2 H3/\(pb v i out (lr.drop i),0)=r0/\dz H3 u 3 1 out.length (out.flatMap BX) r/\(∀q,r=some q->H2.nx<=q)/\MD A 0 2 9 20 21 22 (k) (w) (u) (b) (.i .i64 (lr.length:Int)) (.i .i64 (i:Int)) 42 []) ?_ lr.length
  ⟨0,[],.o .nilS,none,rfl,Nat.zero_le _,Nat.zero_le _,Fr.refl _,E0,.inl ⟨rfl,rfl,rfl,rfl⟩,λq hq=>(by cases hq),zL⟩
 clear t0 t2 t4 A0 B0 A1 E0 l1 l2 k3 hK;rintro m A H3 ⟨i,out,u,r,rfl,hi,E3,g3,hr,hown,V0,t0,t2,t9,t20,t21,t22,A0,B0⟩;refine zW tyF ?_;refine zI tyF (λhc=>?_) (λhc=>?_)
 ·have D0:i<lr.length:=aa;have ex:=aO D0;have S0:=List.drop_eq_getElem_cons D0;have Y2:=dK D0;have I0:=cU D0;generalize lr[i]=x at ex S0 Y2 I0;have N2:=bw i;obtain⟨⟨L4,j7⟩,hxp⟩:=hrg x I0;have hPx:=hP x I0;obtain⟨id,g,off,cells,rfl,hid,B2,Q0⟩:=(hb.gr g3).open aa;obtain⟨u1,Y0⟩:=Q0 i x ex;obtain⟨V2,y1,y2,_,_,_,_⟩:=Y0;clear Q0;rw[S0,pb]at hr;refine zW tyF ?_;refine R1.ed λK2 q1 q2 q3 q4=>?_;refine zG (qA tyF (ixC D0)) λK hK=>?_;apply hK.out;refine R1.gen (λA4 H4=>Gr H3 H4/\H3.nx<H4.nx/\H4.get H3.nx=some (.arr [.i .i64 x.1,u1] 82 0 0)/\aau A4 0 2 9 10 11 20 21 22 (k) (w) (u) (.i .i64 (i:Int)) (.o (.ptr H3.nx 0 0 2)) (.o (.sl id g off lr.length 2)) (.i .i64 (lr.length:Int)) (.i .i64 (i:Int)) 42 [])
   ⟨((Fr.refl _).new _).mod _ (.inl (ai _)),aZ _,ao rfl,zL⟩ ?_
  clear t0 t2 t9 t20 t21 t22 A0 B0 A B2 hid y1 y2 hK K;rintro A H4 ⟨g4,n4,rx,t0,t2,t9,t10,t11,t20,t21,t22,A0,B0⟩;have hw4:=(hw.gr g3).gr g4;obtain⟨id',g',off',cells',rfl,P7,hgr4,hat'⟩:=hw4.open aa;have ev:v[x.1.toNat]?=some (v.getD x.1.toNat 0):=by rw[bt,aO aa];rfl
  obtain⟨e3,e4⟩:=hat' _ _ ev;clear hat';have hid4':id'<H4.nx:=P7;refine zO (qA tyF uD) λK hK=>?_;refine WE.BT (sE H4 u1 _ x.1 x.2 v (V2.gr g4) hw4 hxp aa) λkx H5 g5 hkx=>?_;subst hkx;have g35:=g4.gr g5;obtain⟨rx5,n5⟩:=bq g5 n4 rx;have hid5:=ay P7 g5.nx;have hgr5:rowOf (H5.get id') g'=some cells':=by rw[g5.get _ P7 aF];exact hgr4
  generalize bL v 0 x.2=n at hr |-;generalize v.getD x.1.toNat 0=n2 at hr e3;by_cases hq:n=n2
  ·have ce:=beq_iff_eq.2 hq;rw[ad hq]at hr;clear hq;refine zQ (qA tyF (ixI L4 j7)) ?_;apply hK.out;refine zW tyF ?_;apply q1.out;refine zW tyF ?_;exact⟨lr.length-(i+1),aa,i+1,out,u,r,rfl,D0,tZ E3,g3.gr g35,hr,hown.fr g35 λ_ _ h=>h,V0,zL⟩
  have ce:(n==n2)=false:=aW hq;rw[ab hq]at hr;clear hq;refine zQ (qA tyF (ixI L4 j7)) ?_;apply hK.out;refine zW tyF ?_;obtain⟨hlt5,v6,H6,r6,X2,ho6,hf6,hr6⟩:=gZ fD tz hzi hzil aE (hown.fr g35 λ_ _ h=>h) [.i .i64 ((i:Int))] rfl aa;clear hzi hzil;refine zG (zDd tyF (rq) X2) λK hK=>?_;refine⟨hlt5,?_⟩;refine zK tyF ?_;apply q1.out;refine zW tyF ?_;refine⟨lr.length-(i+1),aa,i+1,out++[(i:Int)],v6,some r6,rfl,D0,by rw[bA];exact Nat.succ_le_succ E3,(g3.gr g35).then hf6 λq hq=>.inl (V0 q hq),hr,?_,λq hq=>?_,zL⟩
  ·rw[bA,pk];exact ho6
  cases hq
  rcases hr6 with e|e
  ·exact V0 _ e
  exact aD (g3.gr g35).nx e
 have U2:i=lr.length:=aa;refine zW tyF ?_;apply k2.out;refine zW tyF ?_;rw[U2,dD,pb]at hr;exact fin (u) (0) _ _ qp qp qe (g2.gr g3) (⟨by rw[<-hr];exact hown.slc,by rw[<-hr]⟩)
def Ss:aq prog 116=true:=ae
def Sf:aq prog 66=true:=ae
def zJ:aq prog 79=true:=ae
def aC:List Pr->Int->List Int
 |[],_=>[]
 |[_],n=>[n]
 |_::y::l,n=>n%y.2::aC (y::l) (n/y.2)
def lP:∀(us:List Pr)(n:Int),(aC us n).length=us.length
 |[],_=>rfl
 |[_],_=>rfl
 |_::y::l,n=>by rw[aC,List.length_cons,lP (y::l),List.length_cons];rfl
def NQ(l:List Int):l.flatMap BX=l.map (AC.i .i64):=by
 induction l with
 |nil=>rfl
 |cons x l ih=>rw[List.flatMap_cons,ih];rfl
def OP{H:Hp}{q:Nat}{l:List Int}{lo gen:Nat}(hg:H.get q=some (.arr (l.map (AC.i .i64)) 3 lo gen))(hl:lo<=gen)(hq:q<H.nx):SlI H (.o (.sl q gen 0 l.length 1)) l:=
 ⟨by rw[NQ,cT,bR],.inr ⟨q,gen,0,rfl,hq,l.map (AC.i .i64),by rw[hg];exact de hl (ai _),by rw[cT];omega,by rw[List.drop_zero,iX (by rw[cT];omega),NQ]⟩⟩
def Vk{α:Type}(out:List α)(z a:α)(k:Nat):(out++List.replicate (k+1) z).set out.length a=(out++[a])++List.replicate k z:=by rw[List.set_append_right _ _ (ai _),ga,List.replicate_succ,List.set_cons_zero,bW];rfl
def Rk(H:Hp)(nm:List UInt8)(u:AC)(us:List Pr)(n:Int)(hu:SlP H u us)(hL:us.length<=1000000)(D3:0<=n)(hn:n<=1099511627776)(hf:∀x∈us,1<=x.2/\x.2<=60):
  Con E2 116 [.agg [.o (.str nm),u],.one (.i .i64 n)] H (λ_=>False) λr H'=>∃c,r=.one c/\SlI H' c (aC us n)/\∀id∈(AV.one c).ids,H.nx<=id:=by
 refine Con.Iw (λH=>SlP H u us) hu λH e hu=>?_;rw[<-e];clear e;refine C1.fK 48 [.tmp 4] Tryz.func116 λtm h0 h1=>?_;obtain⟨z,hz,hzc⟩:∃z,ba prog 3=some z/\(ofValue z).cells=[.i .i64 0]:=⟨.int .i64 0,GR,rfl⟩;have mk:∀H,dN prog H 27 (.one (.i .i64 (us.length:Int))) (.one (.i .i64 (us.length:Int)))=.val (.one (.o (.sl H.nx 0 0 us.length 1))) (H.new (.arr ((List.replicate us.length (0:Int)).map (AC.i .i64)) 3 0 0)):=λH=>by rw[tK fD tz hz (by rw[hzc];rfl) aa,hzc,yL,List.map_replicate]
 clear hz hzc;have hu0:=hu;refine zG tyF λK hK=>?_;apply hK.out;refine R1.gen (λA1 H1=>Gr H H1/\H.nx+1=H1.nx/\H1.get H.nx=some (.arr [.o (.str nm),u] 51 0 0)/\ja A1 n (iB A1 H.nx (A1.nt=48/\A1.dfr=[]))) ⟨(Fr.refl _).new _,rfl,aJ rfl,zL⟩ ?_;rintro A1 H1 ⟨g1,n1,rx,t1,t2,A0,B0⟩;clear h0 h1 tm hK K;have m1:H.nx<H1.nx:=aa;obtain⟨N,hN⟩:=dZ H.nx;rw[<-hN]at n1 rx t2 m1;replace hN:=ah hN;replace n1:=ah n1;have hu:=hu.gr g1;have l1:=hu.len;have l2:=hu.lt;refine zG (qA tyF mk) λK hK=>?_;apply hK.out;refine R1.gen (λA2 H2=>Gr H1 H2/\N+1<H2.nx/\H2.get (N+1)=some (.arr ((([]:List Int)++List.replicate us.length 0).map (AC.i .i64)) 3 0 0)/\ja A2 n (iB A2 N (eK A2 5 (.o (.sl (N+1) 0 0 us.length 1)) 48 [])))
  ⟨(Fr.refl _).new _,by have:=n1.out;show _<H1.nx+1;omega,aJ n1.out,?_⟩ ?_
 ·rw[n1.out];exact zL
 clear t1 t2 A0 B0 A1 mk l1 l2 hK K;rintro A2 H2 ⟨g2,m2,rs,t1,t2,t5,A0,B0⟩;obtain⟨rx,m1⟩:=bq g2 m1 rx;have hu:=hu.gr g2;have g2:=g1.gr g2;clear g1 n1;refine zW (qA tyF m2) ?_;refine R1.ed λK k1 k2 k3 k4=>?_;refine R1.loop (λm A H3=>∃(i:Nat)(out:List Int)(k:Int),m=us.length-i/\i<=us.length/\out.length=i/\0<=k/\k<=1099511627776/\Gr H H3/\N<H3.nx/\N+1<H3.nx/\H3.get N=some (.arr [.o (.str nm),u] 51 0 0)/\H3.get (N+1)=some (.arr ((out++List.replicate (us.length-i) 0).map (AC.i .i64)) 3 0 0)/\out++aC (us.drop i) k=aC us n /\
   slot A.tm 1=.one (.i .i64 (k:Int))/\slot A.tm 2=.one ((.o (.ptr N 0 0 2)))/\slot A.tm 5=.one ((.o (.sl (N+1) 0 0 us.length 1)))/\slot A.tm 12=.one (.i .i64 (us.length:Int))/\slot A.tm 13=.one (.i .i64 (i:Int))/\A.nt=48/\A.dfr=[]) ?_ us.length
  ⟨0,[],n,rfl,Nat.zero_le _,rfl,D3,hn,g2,m1,m2,rx,rs,rfl,zL⟩
 clear t1 t2 t5 A0 B0 A2 rx rs hu m1 m2 k3 g2;rintro m A H3 ⟨i,out,k,rfl,hi,E3,C4,l6,g3,m1,m2,rx,rs,j8,t1,t2,t5,t12,t13,A0,B0⟩;refine zW tyF ?_;refine zI tyF (λhc=>?_) (λhc=>?_)
 ·have D0:i<us.length:=aa;have N2:=bw i;have hle:i+1<=((out++List.replicate (us.length-i) (0:Int)).map (AC.i .i64)).length:=by rw[cT,bA,wh];omega
  have R6:∀a:Int,List.take i ((out++List.replicate (us.length-i) (0:Int)).map (AC.i .i64))++AC.i .i64 a::List.drop (i+1) ((out++List.replicate (us.length-i) (0:Int)).map (AC.i .i64))=((out++[a])++List.replicate (us.length-(i+1)) 0).map (AC.i .i64):=λa=>by rw[setRow (AC.i .i64) _ _ a (by rw[bA,wh];omega)];have e:us.length-i=(us.length-(i+1))+1:=aa;rw[e,<-E3,Vk]
  refine zW tyF ?_;refine R1.ed λK2 q1 q2 q3 q4=>?_;have M1:(aC us n).length=us.length:=lP us n;by_cases O2:i+1=us.length
  ·have ce:(((i+1:Nat):Int)==(us.length:Int))=true:=by rw[O2];exact fl _
   replace O2:=ah O2;refine zW (zDf tyF (ixC D0) R6 bR hle) ?_;refine q3.out 0 _ _ aE ?_;apply k2.out;refine zW tyF ?_;have S0:us.drop i=[us[i]]:=by rw[List.drop_eq_getElem_cons D0,mR (by have:=O2.out;omega)]
   rw[S0,aC]at j8;have e0:us.length-(i+1)=0:=by have:=O2.out;omega
   have W7:=OP (H:=H3.mod (N+1) (.arr ((aC us n).map (AC.i .i64)) 3 0 0)) (ao rfl) (ai _) m2;rw[M1]at W7;rw[e0,List.replicate_zero,List.append_nil,j8];exact⟨_,_,au (.o (.sl (N+1) 0 0 us.length 1)) (.inr rfl) qe qp,g3.mod _ (.inl (by have:=hN.out;omega)),λ_=>⟨_,rfl,W7,λk hk=>by have:=hN.out;rw[List.mem_singleton.1 hk];omega⟩⟩
  have ce:(((i+1:Nat):Int)==(us.length:Int))=false:=aW aa;have I3:i+1<us.length:=aa;have S0:us.drop i=us[i]::us[i+1]::us.drop (i+2):=by rw[List.drop_eq_getElem_cons D0,List.drop_eq_getElem_cons I3]
  have hdr2:us.drop (i+1)=us[i+1]::us.drop (i+2):=List.drop_eq_getElem_cons I3;have ey:=aO I3;obtain⟨N6,hy2⟩:=hf us[i+1] (cU I3);rw[S0,aC,<-hdr2]at j8;clear S0 hdr2;generalize us[i+1]=y at ey N6 hy2 j8;obtain⟨id,g,off,cells,rfl,J3,hgr0,Q0⟩:=hu0.open aa;have hidN:id<N:=by have:=hN.out;omega
  have hid:id<H3.nx:=aa;have B2:rowOf (H3.get id) g=some cells:=by rw[g3.get _ J3 aF];exact hgr0
  have hgm:∀X,rowOf ((H3.mod (N+1) X).get id) g=some cells:=λX=>by rw[az aa];exact B2
  have hgx:∀X,(H3.mod (N+1) X).get N=some (.arr [.o (.str nm),.o (.sl id g off us.length 2)] 51 0 0):=λX=>(az aa).trans rx;have hy:=Q0 _ y ey;have y1:=hy.snd;have y2:=hy.le2;clear Q0 hy J3 hgr0;have hy0:y.2≠0:=aa;have e1:k.tmod y.2=k%y.2:=Int.tmod_eq_emod_of_nonneg C4;have e3:k/y.2<=k:=Int.ediv_le_self _ C4;have e4:0<=k/y.2:=Int.ediv_nonneg C4 aa;have e2:IntKind.i64.wrap (k.tdiv y.2)=k/y.2:=by rw[rQ C4];exact aI aa aa
  refine zW (zDj tyF (ixC D0) (ixC I3) R6 bR hle arQ (tS hy0) (aa5 hy0)) ?_;apply q1.out;refine zW tyF ?_;exact⟨us.length-(i+1),aa,i+1,out++[k%y.2],k/y.2,rfl,D0,by rw[bA,E3];rfl,e4,aa,g3.mod _ (.inl (by have:=hN.out;omega)),m1,m2,(az aa).trans rx,ao rfl,by rw[bW];exact j8,zL⟩
 have U2:i=us.length:=aa;refine zW tyF ?_;apply k2.out;refine zW tyF ?_;rw[U2,dD,aC,List.append_nil]at j8;rw[U2,ga,List.replicate_zero,List.append_nil,j8]at rs;have W7:=OP rs (ai _) m2;rw[lP us n]at W7;exact⟨_,_,au (.o (.sl (N+1) 0 0 us.length 1)) (.inr rfl) qe qp,g3,λ_=>⟨_,rfl,W7,λk hk=>by have:=hN.out;rw[List.mem_singleton.1 hk];omega⟩⟩
def dC:List Int->Int
 |[]=>0
 |x::l=>if x=0 then dC l else x
def wL(H:Hp)(w:AC)(l:List Int)(hw:SlI H w l)(hL:l.length<=4611686018427387904):
  Con E2 79 [.one w] H (λ_=>False) λr _=>r=.one (.i .i64 (dC l)):=by
 refine Con.qw (λH=>SlI H w l) hw λH hw=>?_;refine C1.jf 15 [.tmp 2] Tryz.func79 λtm h0=>?_;have fin:=Ax E2 H 2 (dC l);generalize E0:dC l=r0 at fin;have l1:=hw.len;have l2:=hw.lt;refine zW tyF ?_;refine R1.ed λK k1 k2 k3 k4=>?_;refine R1.loop (λm A H2=>∃i:Nat,m=l.length-i/\i<=l.length/\H2=H/\dC (l.drop i)=r0/\ko A.tm 5 6 (w) (.i .i64 (l.length:Int)) (gT A i (A.nt=15/\A.dfr=[]))) ?_ l.length ⟨0,rfl,Nat.zero_le _,rfl,E0,zL⟩;clear h0 tm E0 l1 l2;rintro m A H2 ⟨i,rfl,Z4,rfl,hr,t5,t6,t7,A0,B0⟩;refine zW tyF ?_;refine zI tyF (λhc=>?_) (λhc=>?_)
 ·have D0:i<l.length:=aa;have ex:=aO D0;have S0:=List.drop_eq_getElem_cons D0;have Y2:=dK D0;have I0:=cU D0;generalize l[i]=x at ex S0 Y2 I0;have N2:=bw i;obtain⟨id,g,off,cells,rfl,hid,B2,Q0⟩:=hw.open aa;obtain⟨e1,e2⟩:=Q0 i x ex;rw[S0,dC]at hr;clear Q0;refine zW tyF ?_;refine R1.ed λK2 q1 q2 q3 q4=>?_;by_cases hx:x=0
  ·have ce:=beq_iff_eq.2 hx;rw[ad hx]at hr;replace hx:=ah hx;refine zW (qA tyF (ixC D0)) ?_;apply q1.out;refine zW tyF ?_;exact⟨l.length-(i+1),aa,i+1,rfl,D0,rfl,hr,zL⟩
  have ce:(x==0)=false:=aW hx;refine zW (qA tyF (ixC D0)) ?_;exact q4.out _ _ (k4.out _ _ (fin (x) _ _ qp qe (Fr.refl _) ((by rw[ab hx]at hr;exact hr))))
 have U2:i=l.length:=aa;refine zW tyF ?_;apply k2.out;refine zW tyF ?_;rw[U2,dD,dC]at hr;exact fin (0) _ _ qp qe (Fr.refl _) (hr)
def Gf{H:Hp}(a b:Int){e:TypeId}:SlI (H.new (.arr [.i .i64 a,.i .i64 b] e 0 0)) (.o (.sl H.nx 0 0 2 1)) [a,b]:=
 ⟨rfl,.inr ⟨H.nx,0,0,rfl,aZ _,_,by rw[aJ rfl];exact de (ai _) (ai _),ai _,rfl⟩⟩
def jr(nm:List UInt8)(us:List Pr)(n:Int):List Int×Int:=if aR nm us≠0 then([],aR nm us)else if 0<=n/\n<=1099511627776 then(aC us n,0)else([],8)
def Mm(H:Hp)(nm:List UInt8)(u:AC)(us:List Pr)(n:Int)(hu:SlP H u us):
  Con E2 66 [.agg [.o (.str nm),u],.one (.i .i64 n)] H (λ_=>False) λr H'=>∃c,r=.tup [(false,[c]),(false,[.i .i64 (jr nm us n).2])]/\SlI H' c (jr nm us n).1/\∀id∈(AV.one c).ids,H.nx<=id:=by
 refine Con.Iw (λH=>SlP H u us) hu λH e hu=>?_;rw[<-e];clear e;refine C1.fK 24 [.tmp 4,.tmp 5] Tryz.func66 λtm h0 h1=>?_;generalize E0:jr nm us n=r0;have fin:=finF E2 SlI H 4 5 r0;refine zG tyF λK hK=>?_;apply hK.out;refine R1.gen (λA1 H1=>Gr H H1/\H.nx<H1.nx/\H1.get H.nx=some (.arr [.o (.str nm),u] 51 0 0)/\ja A1 n (iB A1 H.nx (A1.nt=24/\A1.dfr=[]))) ⟨(Fr.refl _).new _,aZ _,aJ rfl,zL⟩ ?_;rintro A1 H1 ⟨g1,m1,rx,t1,t2,A0,B0⟩;clear h0 h1 tm hK K;have hu:=hu.gr g1;refine zG (qA tyF uz) λK hK=>?_;refine WE.con (rW H1 nm u us hu) λw H2 g2 hq=>?_;subst hq;obtain⟨rx,m1⟩:=bq g2 m1 rx;have hu:=hu.gr g2;have g2:=g1.gr g2;clear g1;have r2:mL [AC.i .i64 0] 2=[.i .i64 0,.i .i64 0]:=rfl;have G0:=@jg nm us;unfold jr at E0;generalize aR nm us=e0 at E0 G0;by_cases c0:0<=n
 case neg=>
  refine zS (qA tyF uA) ?_;refine WE.con (re H2 false 8) λw H3 g3 hq=>?_;subst hq;obtain⟨rx,m1⟩:=bq g3 m1 rx;have hu:=hu.gr g3;have g3:=g2.gr g3;refine zS (qA tyF zJ) ?_;refine WE.con (wL _ _ [e0,8] (Gf _ _) (by show 2<=_;omega)) λw H4 g4 hq=>?_;subst hq;have g4:Gr H3 H4:=((Fr.refl _).new _).gr g4;obtain⟨rx,m1⟩:=bq g4 m1 rx;have hu:=hu.gr g4;have g4:=g3.gr g4;by_cases S1:e0=0
  case neg=>
   have ce:(dC [e0,8]==0)=false:=by rw[dC,ab S1];exact aW S1
   have cf:dC [e0,8]=e0:=by rw[dC,ab S1]
   rw[cf]at ce;refine zK tyF ?_;exact fin (.o .nilS) (e0) _ _ qp qp qe (g4) (⟨by rw[<-E0,ad S1];exact SlI.nil,by rw[<-E0,ad S1],λ_ h=>by cases h⟩)
  rw[ab (λh=>h S1)]at E0;have cf:dC [e0,8]=8:=by rw[dC,ad S1];rfl
  replace S1:=ah S1;refine zK tyF ?_;exact fin (.o .nilS) (8) _ _ qp qp qe (g4) (⟨by rw[<-E0,ab (λh=>c0 h.1)];exact SlI.nil,by rw[<-E0,ab (λh=>c0 h.1)],λ_ h=>by cases h⟩)
 by_cases c1:n<=1099511627776
 case neg=>
  refine zS (qA tyF uA) ?_;refine WE.con (re H2 false 8) λw H3 g3 hq=>?_;subst hq;obtain⟨rx,m1⟩:=bq g3 m1 rx;have hu:=hu.gr g3;have g3:=g2.gr g3;refine zS (qA tyF zJ) ?_;refine WE.con (wL _ _ [e0,8] (Gf _ _) (by show 2<=_;omega)) λw H4 g4 hq=>?_;subst hq;have g4:Gr H3 H4:=((Fr.refl _).new _).gr g4;obtain⟨rx,m1⟩:=bq g4 m1 rx;have hu:=hu.gr g4;have g4:=g3.gr g4;by_cases S1:e0=0
  case neg=>
   have ce:(dC [e0,8]==0)=false:=by rw[dC,ab S1];exact aW S1
   have cf:dC [e0,8]=e0:=by rw[dC,ab S1]
   rw[cf]at ce;refine zK tyF ?_;exact fin (.o .nilS) (e0) _ _ qp qp qe (g4) (⟨by rw[<-E0,ad S1];exact SlI.nil,by rw[<-E0,ad S1],λ_ h=>by cases h⟩)
  rw[ab (λh=>h S1)]at E0;have cf:dC [e0,8]=8:=by rw[dC,ad S1];rfl
  replace S1:=ah S1;refine zK tyF ?_;exact fin (.o .nilS) (8) _ _ qp qp qe (g4) (⟨by rw[<-E0,ab (λh=>c1 h.2)];exact SlI.nil,by rw[<-E0,ab (λh=>c1 h.2)],λ_ h=>by cases h⟩)
 refine zS (qA tyF uA) ?_;refine WE.con (re H2 true 8) λw H3 g3 hq=>?_;subst hq;obtain⟨rx,m1⟩:=bq g3 m1 rx;have hu:=hu.gr g3;have g3:=g2.gr g3;refine zS (qA tyF zJ) ?_;refine WE.con (wL _ _ [e0,0] (Gf _ _) (by show 2<=_;omega)) λw H4 g4 hq=>?_;subst hq;have g4:Gr H3 H4:=((Fr.refl _).new _).gr g4;obtain⟨rx,m1⟩:=bq g4 m1 rx;have hu:=hu.gr g4;have g4:=g3.gr g4;by_cases S1:e0=0
 case neg=>
  have ce:(dC [e0,0]==0)=false:=by rw[dC,ab S1];exact aW S1
  have cf:dC [e0,0]=e0:=by rw[dC,ab S1]
  rw[cf]at ce;refine zK tyF ?_;exact fin (.o .nilS) (e0) _ _ qp qp qe (g4) (⟨by rw[<-E0,ad S1];exact SlI.nil,by rw[<-E0,ad S1],λ_ h=>by cases h⟩)
 rw[ab (λh=>h S1)]at E0;have cf:dC [e0,0]=0:=by rw[dC,ad S1];rfl
 obtain⟨_,_,hf⟩:=G0 S1;have Z5:=(G0 S1).1;replace S1:=ah S1;refine zK tyF ?_;refine zG (qA tyF Ss) λK hK=>?_;refine WE.con (Rk H4 nm u us n hu aa c0 c1 hf) λw H5 g5⟨c,hq,hc,hfr⟩=>?_;subst hq;refine zK tyF ?_;exact fin (c) (0) _ _ qp qp qe (g4.gr g5) (⟨by rw[<-E0,ad ⟨c0,c1⟩];exact hc,by rw[<-E0,ad ⟨c0,c1⟩],λid h=>aD g4.nx (hfr id h)⟩)
def gj{nm:List UInt8}{us:List Pr}(h:aR nm us=0):∃x l,us=x::l/\x.2=1:=by
 unfold aR at h;cases hl:gJ nm us with
 |false=>rw[hl,ab zA8]at h;cases h
 |true=>
  unfold gJ at hl;simp only[aT]at hl;obtain⟨⟨⟨⟨_,h1⟩,_⟩,_⟩,h2⟩:=hl;cases us with
  |nil=>simp at h1
  |cons x l=>
   refine⟨x,l,rfl,?_⟩;have:=List.all_eq_true.1 h2 0 (List.mem_range.2 (Nat.succ_pos _));unfold okU at this;simp only[aT]at this;have h3:=this.2;simp at h3
   exact h3
def evH:List Pr->List Int->Int
 |_::y::l,d::ds=>d+y.2*evH (y::l) ds
 |_,d::_=>d
 |_,[]=>0
def vW:List Pr->Nat->Int
 |_,0=>1
 |_::y::l,i+1=>y.2*vW (y::l) i
 |_,_+1=>0
def tk(us:List Pr)(ds:List Int):Prop:=ds.length=us.length/\∀i,i<us.length->0<=ds.getD i 0/\(i+1<us.length->ds.getD i 0<(us.getD (i+1) ([],0)).2)
def tk.tl{x y:Pr}{l:List Pr}{d:Int}{ds:List Int}(h:tk (x::y::l) (d::ds)):0<=d/\d<y.2/\tk (y::l) ds:=by obtain⟨h1,h2⟩:=h;have h0:=h2 0 (by simp);refine⟨h0.1,h0.2 (by simp),by simpa using h1,λi hi=>?_⟩;have:=h2 (i+1) (by simp at hi |-;omega);refine⟨this.1,λh=>this.2 (by simp at h |-;omega)⟩
def tk.cons{x y:Pr}{l:List Pr}{d:Int}{ds:List Int}(h0:0<=d)(h1:d<y.2)(h:tk (y::l) ds):tk (x::y::l) (d::ds):=by
 obtain⟨h2,h3⟩:=h;refine⟨by simpa using h2,λi hi=>?_⟩;cases i with
 |zero=>exact⟨h0,λ_=>h1⟩
 |succ i=>have:=h3 i (by simp at hi |-;omega);exact⟨this.1,λh=>this.2 (by simp at h |-;omega)⟩
def By:∀(us:List Pr)(ds:List Int),tk us ds->aC us (evH us ds)=ds
 |[],[],_=>rfl
 |[],_::_,h=>by cases h.1
 |[_],[],h=>by cases h.1
 |[_],[_],_=>rfl
 |[_],_::_::_,h=>by cases h.1
 |_::_::_,[],h=>by cases h.1
 |x::y::l,d::ds,h=>by obtain⟨h0,h1,h2⟩:=h.tl;have hy:y.2≠0:=aa;rw[evH,aC,Int.add_mul_emod_self_left,Int.emod_eq_of_lt h0 h1,Int.add_mul_ediv_left _ _ hy,Int.ediv_eq_zero_of_lt h0 h1,Int.zero_add,By (y::l) ds h2]
def qf:∀(us:List Pr)(n:Int),us≠[]->evH us (aC us n)=n
 |[],_,h=>absurd rfl h
 |[_],_,_=>rfl
 |x::y::l,n,_=>by rw[aC,evH,qf (y::l) _ (by simp)];have:=Int.emod_add_mul_ediv n y.2;omega
def nz:∀(us:List Pr)(n:Int),0<=n->(∀x∈us,1<=x.2)->tk us (aC us n)
 |[],_,_,_=>⟨rfl,λi hi=>absurd hi (Nat.not_lt_zero i)⟩
 |[x],n,h,_=>⟨rfl,λi hi=>by
  have:i=0:=by simp at hi;omega
  subst this;exact⟨h,λh=>absurd h (by simp)⟩⟩
 |x::y::l,n,h,hf=>by have hy:=hf y (by simp);rw[aC];exact tk.cons (Int.emod_nonneg _ aa) (Int.emod_lt_of_pos _ aa) (nz (y::l) _ (Int.ediv_nonneg h aa) λz hz=>hf z (aU _ hz))
end Go.Proofs.YtgepceljhelekaaGreat
end

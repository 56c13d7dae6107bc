/- A part of the proof. -/
import Derived.Test.YtgepceljhelekaaGreatPAAh
import Derived.KernelRfl
set_option maxRecDepth 100000
set_option maxHeartbeats 64000000
set_option linter.all false
open Go.Proofs.Tryz (prog)
noncomputable section
namespace Go.Proofs.YtgepceljhelekaaGreat
open Go Go.Eng
def LO:ao prog 49=true:=ae
def Ix:ao prog 127=true:=ae
def jT:Option (List Lad)->Pz->Int
 |none,_=>1
 |some ls,p=>if(64:Int)<p.1.length then 3 else if(64:Int)<p.2.length then 3 else if goC (some ls) [] p.1≠0 then goC (some ls) [] p.1 else if goR p.1 [] [] p.2=false then 53 else 0
def IN(H:Hp)(k a b:AC)(o:Option (List Lad))(p:Pz)(hk:dN H k o)(hL:∀ls,o=some ls->∀x∈ls,x.2.length<=1000000)(ha:dD H a p.1)(hb:ei H b p.2)(hB:PzB p):
  Con E2 49 [.one k,.agg [a,b]] H (λ_=>False) λr _=>r=.one (.i .i64 (jT o p)):=by
 refine Con.of rfl λlg=>?_;have hk:dN ⟨H.t,H.nx,lg⟩ k o:=dN.same (H:=H) rfl rfl hk;have ha:dD ⟨H.t,H.nx,lg⟩ a p.1:=ha;have hb:ei ⟨H.t,H.nx,lg⟩ b p.2:=hb;generalize(⟨H.t,H.nx,lg⟩:Hp)=H at hk ha hb |-
 refine C1.fD 28 [.tmp 4] Tryz.func49 λtm h0 h1=>?_;have fin:=rC E2 H 4 (jT o p);generalize C0:jT o p=r0 at fin;obtain⟨lc,lr⟩:=p;have hP:∀x∈lr,x.2.length<=4611686018427387904:=λx hx=>by have:=hB.p x hx;omega
 simp only at ha hb
 refine qG (zDd aj h0 h1) λK hK=>?_;apply hK;refine R1.gen (λA1 H1=>Gr H H1/\H.nx<H1.nx/\H1.get H.nx=some (.arr [a,b] 26 0 0)/\slot A1.tm 0=.one (k)/\jN A1 H.nx (A1.nt=28/\A1.dfr=[]))
  ⟨(Fr.refl _).new _,?_⟩ ?_
 ·exact qZ h0
 rintro A1 H1 ⟨g1,m1,r1,t0,t3,z0,A0⟩;clear h0 h1 tm;have hk:=hk.gr g1;have ha:=ha.gr g1;have hb:=hb.gr g1;refine qG (zDe aj t0 z0 Qz) λK hK=>?_;refine WE.con (LI H1 k o hk hL) λw H2 g2 hw=>?_;subst hw;obtain⟨r1,m1⟩:=bD g2 m1 r1;have hk:=hk.gr g2;have ha:=ha.gr g2;have hb:=hb.gr g2;have g2:=g1.gr g2;clear g1;refine qS (qA aj z0) ?_;apply hK;cases o with
 |none=>
  repeat refine R1.aJ ?_
  (first|refine R1.Ft λKx Ky hx hy=>?_|refine R1.DM λKx Ky hx hy=>?_);simp only[qB,aZ,Nat.reduceLT,Nat.reduceEqDiff,Nat.reduceLeDiff,reduceIte,Nat.reduceAdd,Nat.reduceSub,Nat.reduceMul,Int.reduceLT,Int.reduceLE,Int.reduceBEq,Option.isNone]
  refine hx ?_;refine qW z0 ?_;exact fin (1) _ _ qp (qd A0) (g2) (C0)
 |some ls=>
 repeat refine R1.aJ ?_
 (first|refine R1.Ft λKx Ky hx hy=>?_|refine R1.DM λKx Ky hx hy=>?_);simp only[qB,aZ,Nat.reduceLT,Nat.reduceEqDiff,Nat.reduceLeDiff,reduceIte,Nat.reduceAdd,Nat.reduceSub,Nat.reduceMul,Int.reduceLT,Int.reduceLE,Int.reduceBEq,Option.isNone]
 refine hy ?_;refine R1.bT ?_;rw[jT]at C0;simp only at C0
 by_cases c1:(64:Int)<lc.length
 ·rw[ad c1]at C0;have c1:=bH c1;refine qG (zDl aj t3 z0 r1 m1 bK cX gq ha.len ha.lt c1) λK hK=>?_;apply hK;refine qY ?_;refine qW z0 ?_;exact fin (3) _ _ qp (qd A0) (g2) (C0)
 rw[ab c1]at C0;by_cases c2:(64:Int)<lr.length
 ·rw[ad c2]at C0;have c1:=bh c1;have c2:=bH c2;refine qG (zDm aj t3 z0 r1 m1 bK dZ cX ij gq jF (zDg ha.len ha.lt hb.len hb.lt c1 c2)) λK hK=>?_;apply hK;refine qY ?_;refine qW z0 ?_;exact fin (3) _ _ qp (qd A0) (g2) (C0)
 rw[ab c2]at C0;have hC:lc.length<=1000000:=aa;have hR:lr.length<=1000000:=aa;have c1:=bh c1;have c2:=bh c2;refine qG (zDm aj t3 z0 r1 m1 bK dZ cX ij gq jF (zDg ha.len ha.lt hb.len hb.lt c1 c2)) λK hK=>?_;apply hK;refine qY ?_;refine R1.bT ?_;refine qG (zDj aj t0 t3 z0 r1 m1 bK cX CO) λK hK=>?_;refine WE.con (AQ H2 k a (some ls) lc hk hL ha hC) λw H3 g3 hw=>?_;subst hw;obtain⟨r1,m1⟩:=bD g3 m1 r1;have ha:=ha.gr g3;have hb:=hb.gr g3;have g3:=g2.gr g3;refine qS (qA aj z0) ?_;apply hK;generalize goC (some ls) [] lc=e0 at C0 |-;by_cases Y0:e0=0
 case neg=>have ce:(e0==0)=false:=aF Y0;rw[ad Y0]at C0;refine qW (zDd aj z0 ce) ?_;refine qY ?_;refine qW z0 ?_;exact fin (e0) _ _ qp (qd A0) (g3) (C0)
 rw[ab (λh=>h Y0)]at C0;have ce:(e0==0)=true:=by rw[Y0];rfl
 refine qW (zDd aj z0 ce) ?_;refine qY ?_;refine R1.bT ?_;refine qG (zDh aj t3 z0 r1 m1 ke CP) λK hK=>?_;refine WE.con (AS H3 a b lc lr ha hb hC hR hP) λw H4 g4 hw=>?_;subst hw;have g4:=g3.gr g4;refine qS (qA aj z0) ?_;apply hK;cases hg:goR lc [] [] lr with
 |false=>rw[hg,ad rfl]at C0;refine qY ?_;refine qW z0 ?_;exact fin (53) _ _ qp (qd A0) (g4) (C0)
 |true=>rw[hg,ab (by decide:¬(true=false))]at C0;refine qY ?_;refine qW z0 ?_;exact fin (0) _ _ qp (qd A0) (g4) (C0)
def Hf(H:Hp)(k a b:AC)(o:Option (List Lad))(p:Pz)(hk:mr H k o)(hL:∀ls,o=some ls->(∀x∈ls,x.2.length<=1000000)/\ls.length<=1000000)(ha:dD H a p.1)(hb:ei H b p.2)(hB:PzB p):
  Con E2 127 [.one k,.agg [a,b]] H (λ_=>False) λr _=>r=.one (.i .i64 (jT o p)):=by
 refine Con.of rfl λlg=>?_;have hk:mr ⟨H.t,H.nx,lg⟩ k o:=mr.same (H:=H) rfl rfl hk;have ha:dD ⟨H.t,H.nx,lg⟩ a p.1:=ha;have hb:ei ⟨H.t,H.nx,lg⟩ b p.2:=hb;generalize(⟨H.t,H.nx,lg⟩:Hp)=H at hk ha hb |-
 refine C1.fD 82 [.tmp 4] Tryz.func127 λtm h0 h1=>?_;have fin:=rC E2 H 4 (jT o p);generalize C0:jT o p=r0 at fin;obtain⟨l,lr⟩:=p;have hP:∀x∈lr,x.2.length<=4611686018427387904:=λx hx=>by have:=hB.p x hx;omega
 simp only at ha hb
 refine qG (zDd aj h0 h1) λK hK=>?_;apply hK;refine R1.gen (λA1 H1=>Gr H H1/\H.nx<H1.nx/\H1.get H.nx=some (.arr [a,b] 26 0 0)/\slot A1.tm 0=.one (k)/\jN A1 H.nx (A1.nt=82/\A1.dfr=[]))
  ⟨(Fr.refl _).new _,?_⟩ ?_
 ·exact qZ h0
 rintro A1 H1 ⟨g1,m1,r1,t0,t3,z0,A0⟩;clear h0 h1 tm;have hk:=hk.gr g1;have ha:=ha.gr g1;have hb:=hb.gr g1;cases o with
 |none=>
  have X3:k=.o .nilP:=hk;subst X3;repeat refine R1.aJ ?_
  refine R1.sj λK hK=>?_;simp only[qB,aZ,Nat.reduceLT,Nat.reduceEqDiff,Nat.reduceLeDiff,reduceIte,Nat.reduceAdd,Nat.reduceSub,Nat.reduceMul,Int.reduceLT,Int.reduceLE,Int.reduceBEq,aj,t0,z0,Dr,Je,Cb Sx,Pu];apply hK;refine qY ?_;refine qW z0 ?_;exact fin (1) _ _ qp (qd A0) (g1) (C0)
 |some ls=>
 have X3:RBk H1 k ls:=hk;obtain⟨kb,_,rfl,_⟩:=X3;repeat refine R1.aJ ?_
 refine R1.sj λK hK=>?_;simp only[qB,aZ,Nat.reduceLT,Nat.reduceEqDiff,Nat.reduceLeDiff,reduceIte,Nat.reduceAdd,Nat.reduceSub,Nat.reduceMul,Int.reduceLT,Int.reduceLE,Int.reduceBEq,aj,t0,z0,Dr,rm];apply hK;refine qY ?_;refine R1.bT ?_;rw[jT]at C0;simp only at C0
 by_cases c1:(64:Int)<l.length
 ·rw[ad c1]at C0;have c1:=bH c1;refine qG (zDl aj t3 z0 r1 m1 bK cX gq ha.len ha.lt c1) λK hK=>?_;apply hK;refine qY ?_;refine qW z0 ?_;exact fin (3) _ _ qp (qd A0) (g1) (C0)
 rw[ab c1]at C0;by_cases c2:(64:Int)<lr.length
 ·rw[ad c2]at C0;have c1:=bh c1;have c2:=bH c2;refine qG (zDm aj t3 z0 r1 m1 bK dZ cX ij gq jF (zDg ha.len ha.lt hb.len hb.lt c1 c2)) λK hK=>?_;apply hK;refine qY ?_;refine qW z0 ?_;exact fin (3) _ _ qp (qd A0) (g1) (C0)
 rw[ab c2]at C0;have hC:l.length<=1000000:=aa;have hR:lr.length<=1000000:=aa;have c1:=bh c1;have c2:=bh c2;refine qG (zDm aj t3 z0 r1 m1 bK dZ cX ij gq jF (zDg ha.len ha.lt hb.len hb.lt c1 c2)) λK hK=>?_;apply hK;refine qY ?_;generalize l7:goR l [] [] lr=rb at C0;generalize hc0:goC (some ls) [] l=e0 at C0;obtain⟨N,hN⟩:=dI H.nx;rw[<-hN]at m1 r1 t3;clear hN;refine qW z0 ?_;refine R1.bj λK k1 k2 k3 k4=>?_;refine R1.loop (λm A H2=>∃i:Nat,m=l.length-i/\i<=l.length/\Gr H1 H2/\goC (some ls) (l.take i) (l.drop i)=e0/\slot A.tm 0=.one (.o (.ptr kb 0 0 2))/\jN A N (fu A i (A.nt=82/\A.dfr=[]))) ?_ l.length ⟨0,rfl,Nat.zero_le _,Fr.refl _,hc0,?_⟩
 ·clear t0 t3 z0 A0 A1;rintro m A H2 ⟨i,rfl,hi,g2,hr,t0,t3,t5,z0,A0⟩;have G5:=ha.gr g2;have B3:=hk.gr g2;obtain⟨r1,m1⟩:=bD g2 m1 r1;have g02:=g1.gr g2;refine qW (zDl aj t3 t5 z0 r1 m1 bK cX gq G5.len G5.lt) ?_;refine qE λKx Ky hx hy=>?_;refine iI (λhc=>hx ?_) (λhc=>hy ?_)
  ·clear hx hy Kx Ky;have B0:i<l.length:=aa;have ex:=aA B0;have M0:=List.drop_eq_getElem_cons B0;have Y1:=cK B0;have D0:=bW B0;generalize l[i]=x at ex M0 Y1 D0;have X1:=bB i;obtain⟨id,g,off,cells,rfl,hid,W0,J0⟩:=G5.open aa;obtain⟨p,q,O0⟩:=J0 i x ex;rw[M0,goC]at hr;refine qV ?_;refine R1.bj λK2 q1 q2 q3 q4=>?_;refine qG (zDm aj t3 t5 z0 r1 m1 bK cX eV zw zV (zDg Ao (ixC B0) hid W0 O0.all O0.le)) λK hK=>?_;apply hK;refine R1.gen (λA3 H3=>Gr H2 H3/\H2.nx<H3.nx/\H3.get H2.nx=some (.arr [.i .i64 x.1,.o (.str x.2.1),.o (.str x.2.2.1),p,q] 58 0 0)/\slot A3.tm 0=.one (.o (.ptr kb 0 0 2))/\jN A3 N (fu A3 i (eO A3 6 (.o (.ptr H2.nx 0 0 5)) 82 [])))
    ⟨((Fr.refl _).new _).mod _ (.inl (ai _)),?_⟩ ?_
   ·exact qZ (zDf t0 t3 t5 z0 A0)
   clear t0 t3 t5 z0 A0 A;rintro A H3 ⟨g3,n3,rx,t0,t3,t5,t6,z0,A0⟩;obtain⟨M,hM⟩:=dI H2.nx;rw[<-hM]at rx n3 t6;have hgr3:rowOf (H3.get id) g=some cells:=by rw[g3.get _ hid aE];exact W0
   have hid3:id<H3.nx:=ax hid g3.nx;have hk3:=B3.gr g3;obtain⟨r1,m1⟩:=bD g3 m1 r1;have g13:=g02.gr g3;generalize O2:(if lV (some ls) x.2.2.1≠0 then 4 else if kN x.2.2.2≠0 then kN x.2.2.2 else goC (some ls) (l.take i++[x]) (l.drop (i+1)))=r1' at hr;repeat refine R1.aJ ?_
   (first|refine R1.Co ae λK hK=>?_|refine R1.CV ae λK hK=>?_)
   have rest:∀(b:Bool)(A4:ag)(H4:Hp),Gr H3 H4->(if b=true then 53 else r1')=e0->slot A4.tm 0=.one (.o (.ptr kb 0 0 2))/\jN A4 N (fu A4 i (nu A4 6 63 (.o (.ptr M 0 0 5)) (.b b) 82 []))->K A4 H4:=by
    clear hr t0 t3 t5 t6 z0 A0 A;rintro b A H4 g4 hr ⟨t0,t3,t5,t6,t63,z0,A0⟩;apply hK;obtain⟨rx,n3⟩:=bD g4 n3 rx;have D8:=hk3.gr g4;have g14:=g13.gr g4;have g24:=g3.gr g4;clear g3;have out:e0≠0->e0=r0:=λh=>by rw[<-C0,ad h]
    cases b with
    |true=>rw[ad rfl]at hr;refine qX t63 ?_;refine qW z0 ?_;exact q4 _ _ (k4 _ _ (fin (53) _ _ qp (qd A0) (g14) (hr.trans (out aa))))
    |false=>
    rw[ab zA8,<-O2]at hr;refine qX t63 ?_;refine R1.bT ?_;refine qG (zDj aj t0 t6 z0 rx n3 gG bS AJ) λK hK=>?_;refine WE.con (yM H4 _ ls x.2.2.1 D8 (hL ls rfl).1 (hL ls rfl).2) λw H6 g6⟨c,hw,ha,S1⟩=>?_;subst hw;obtain⟨rx,n3⟩:=bD g6 n3 rx;have g6:=g24.gr g6;refine qS (zDf aj z0 gO kr S1) ?_;apply hK;refine R1.gen (λA7 H7=>Gr H2 H7/\H7.get M=some (.arr [.i .i64 x.1,.o (.str x.2.1),.o (.str x.2.2.1),p,q] 58 0 0)/\M<H7.nx/\slot A7.tm 0=.one (.o (.ptr kb 0 0 2))/\jN A7 N (fu A7 i (slot A7.tm 6=.one (.o (.ptr M 0 0 5))/\lK A7 (lV (some ls) x.2.2.1) (A7.nt=82/\A7.dfr=[]))))
     ⟨(g6.new _).mod _ (.inl g6.nx),?_,?_,?_⟩ ?_
    ·rw[aB (Nat.ne_of_lt n3),bw n3];exact rx
    ·exact tx n3
    ·exact eo (zDg t0 t3 t5 t6 z0 A0)
    clear t0 t3 t5 t6 t63 z0 A0 A;rintro A H7 ⟨g7,rx,n7,t0,t3,t5,t6,t8,z0,A0⟩;generalize lV (some ls) x.2.2.1=d0 at hr t8;by_cases Y0:d0=0
    case neg=>have ce:(d0==0)=false:=aF Y0;rw[ad Y0]at hr;refine qW (zDe aj t8 z0 ce) ?_;refine qY ?_;refine qW z0 ?_;exact q4 _ _ (k4 _ _ (fin (4) _ _ qp (qd A0) (g02.gr g7) (hr.trans (out aa))))
    rw[ab (λh=>h Y0)]at hr;have ce:(d0==0)=true:=by rw[Y0];rfl
    refine qW (zDe aj t8 z0 ce) ?_;refine qY ?_;refine R1.bT ?_;have hp7:=O0.of1.gr g7;have hq7:=O0.of2.gr g7;refine qG (zDi aj t6 z0 rx n7 DY Vk Ga) λK hK=>?_;refine WE.con (Dc H7 p q x.2.2.2 hp7 hq7) λw H8 g8 hw=>?_;subst hw;have g8:=g7.gr g8;refine qS (qA aj z0) ?_;apply hK;generalize kN x.2.2.2=e1 at hr |-;by_cases L3:e1=0
    case neg=>have ce:(e1==0)=false:=aF L3;rw[ad L3]at hr;refine qW (zDd aj z0 ce) ?_;refine qY ?_;refine qW z0 ?_;exact q4 _ _ (k4 _ _ (fin (e1) _ _ qp (qd A0) (g02.gr g8) (hr.trans (out (λh=>L3 (hr.trans h))))))
    rw[ab (λh=>h L3),<-Y1]at hr;have ce:(e1==0)=true:=by rw[L3];rfl
    refine qW (zDd aj z0 ce) ?_;refine qY ?_;refine qW z0 ?_;refine q1 _ _ ?_;refine qW (zDd z0 t5 X1) ?_;refine⟨l.length-(i+1),aa,i+1,rfl,B0,g2.gr g8,hr,?_⟩;exact eo (zDf t0 t3 t5 z0 A0)
   clear hK;by_cases c0:x.1<0
   ·rw[ad c0]at hr;have c0:=bH c0;refine qS (zDi aj t6 z0 rx n3 gF bF c0) ?_;refine rest true _ _ (Fr.refl _) hr ?_;exact eo (zDg t0 t3 t5 t6 z0 A0)
   rw[ab c0]at hr;by_cases c1:255<x.1
   ·rw[ad c1]at hr;have c0:=bh c0;have c1:=bH c1;refine qS (zDj aj t6 z0 rx n3 gF bF c0 c1) ?_;refine rest true _ _ (Fr.refl _) hr ?_;exact eo (zDg t0 t3 t5 t6 z0 A0)
   rw[ab c1]at hr;have c0:=bh c0;have c1:=bh c1;have fin2:∀{H4:Hp},(if nmB x.2.1=false then 53 else r1')=e0->(if(!nmB x.2.1)=true then 53 else r1')=e0:=λh=>by rw[<-h];cases nmB x.2.1<;>rfl
   by_cases A6:i=0
   ·have ci:((0:Int)<(i:Int))=False:=bh aa;rw[A6,List.take_zero,ab (by exact zA8)]at hr;refine qS (zDm aj t5 t6 z0 rx n3 gF sS bF bS c0 (zDd c1 ci my)) ?_;refine WE.con (kW H3 x.2.1) λw H4 g4 hw=>?_;subst hw;refine qS (qA aj z0) ?_;refine rest (!nmB x.2.1) _ _ g4 (fin2 (H4:=H4) hr) ?_;exact eo (zDg t0 t3 t5 t6 z0 A0)
   have ci:((0:Int)<(i:Int))=True:=bH aa;have Y2:i-1<l.length:=aa;have ey:=aA Y2;have hpp:=λx=>Cd (x:=x) aa ey;generalize l[i-1]=y at ey hpp;obtain⟨p',q',J4⟩:=J0 (i-1) y ey;have O3:IntKind.i64.wrap ((i:Int)-1)=((i-1:Nat):Int):=by rw[gE aa aa];omega
   rw[hpp x]at hr;by_cases c2:x.1<=y.1
   ·rw[ad (bp c2)]at hr;have c2:=bH c2;refine qS (zDm aj t3 t5 t6 z0 rx n3 r1 m1 bK cX (zDm gF bF c0 c1 ci c2 O3 eV (ixC Y2) hid3 hgr3 (qA J4.f1 J4.le1))) ?_;refine rest true _ _ (Fr.refl _) hr ?_;exact eo (zDg t0 t3 t5 t6 z0 A0)
   rw[ab (by rw[bI];exact c2)]at hr;have c2:=bh c2;refine qS (zDm aj t3 t5 t6 z0 rx n3 r1 m1 bK cX (zDm gF sS bF bS c0 c1 ci c2 O3 eV (ixC Y2) (zDf hid3 hgr3 J4.f1 J4.le1 my))) ?_;refine WE.con (kW H3 x.2.1) λw H4 g4 hw=>?_;subst hw;refine qS (qA aj z0) ?_;refine rest (!nmB x.2.1) _ _ g4 (fin2 (H4:=H4) hr) ?_;exact eo (zDg t0 t3 t5 t6 z0 A0)
  clear hx hy Kx Ky;have U0:i=l.length:=aa;rw[U0,ct,goC]at hr;rw[ab (λh=>h hr.symm)]at C0;refine qW z0 ?_;refine k2 _ _ ?_;have Z6:=hb.gr g2;refine qG (zDh aj t3 z0 r1 m1 ke QE) λK hK=>?_;refine WE.con (MY H2 a b l lr G5 Z6 hC hR hP) λw H4 g4 hw=>?_;subst hw;have g4:=g02.gr g4;refine qS (qA aj z0) ?_;apply hK;rw[KO,l7];cases rb with
  |false=>rw[ad rfl]at C0;refine qY ?_;refine qW z0 ?_;exact fin (53) _ _ qp (qd A0) (g4) (C0)
  |true=>rw[ab (by decide:¬(true=false))]at C0;refine qY ?_;refine qW z0 ?_;exact fin (0) _ _ qp (qd A0) (g4) (C0)
 exact eo (zDe t0 t3 z0 A0)
def qR{o:Option (List Lad)}{p:Pz}(h:jT o p=0):∃ls,o=some ls/\p.1.length<=64/\p.2.length<=64/\goC o [] p.1=0/\goR p.1 [] [] p.2=true:=by
 cases o with
 |none=>rw[jT]at h;cases h
 |some ls=>
  rw[jT]at h;refine⟨ls,rfl,?_⟩;by_cases c1:(64:Int)<p.1.length
  ·rw[ad c1]at h;cases h
  rw[ab c1]at h;by_cases c2:(64:Int)<p.2.length
  ·rw[ad c2]at h;cases h
  rw[ab c2]at h;by_cases c3:goC (some ls) [] p.1≠0
  ·rw[ad c3]at h;exact absurd h c3
  rw[ab c3]at h;refine⟨aa,aa,Classical.not_not.1 c3,?_⟩;cases hg:goR p.1 [] [] p.2 with
  |true=>rfl
  |false=>rw[hg,ad rfl]at h;cases h
def zr{o:Option (List Lad)}:∀{l acc:List Cl},goC o acc l=0->∀x∈l,lV o x.2.2.1=0
 |[],_,_,_,h=>by cases h
 |x::l,acc,h,y,hy=>by
  rw[goC]at h;by_cases c0:x.1<0
  ·rw[ad c0]at h;cases h
  rw[ab c0]at h;by_cases c1:255<x.1
  ·rw[ad c1]at h;cases h
  rw[ab c1]at h;by_cases c2:PG acc x=true
  ·rw[ad c2]at h;cases h
  rw[ab c2]at h;by_cases c3:nmB x.2.1=false
  ·rw[ad c3]at h;cases h
  rw[ab c3]at h;by_cases c4:lV o x.2.2.1≠0
  ·rw[ad c4]at h;cases h
  rw[ab c4]at h;by_cases c5:kN x.2.2.2≠0
  ·rw[ad c5]at h;exact absurd h c5
  rw[ab c5]at h;rcases List.mem_cons.1 hy with rfl|hy
  ·exact Classical.not_not.1 c4
  exact zr h y hy
open Go Go.Eng Go.ChangeShapes Go.WideShapes
abbrev aa0:=mQ (Ms .i64) (mQ Np TM)
abbrev Jt:=Hu prog 209 3 aa0
abbrev Zf:=mQ Jt Jt
abbrev Oq:=mQ (Ms .i64) (mQ Np (mQ Np Zf))
abbrev Gh:=Hu prog 58 5 Oq
abbrev Jx:=Hu prog 3 1 (Ms .i64)
abbrev PO:=mQ (Ms .i64) Jx
abbrev Hj:=Hu prog 82 2 PO
abbrev wD:=mQ Gh Hj
def Po:mq aa0:=gz kI (gz jh VD)
def BR:mq Jt:=tb Po
def YU:mq Zf:=gz BR BR
def JV:mq Oq:=gz kI (gz jh (gz jh YU))
def xC:mq Gh:=tb JV
def VE:mq Jx:=tb kI
def JX:mq PO:=gz kI VE
def Rz:mq Hj:=tb JX
def Zh{W:World}:Opn prog W 3 aa0 209:=ik Tryz.underlying209 ae rfl (eS (wA Tryz.underlying3) kI (eS (wB Tryz.underlying9) jh (kT (VQ Tryz.underlying4))))
def Kl{W:World}(hB:tJ W):Opn prog W 1 Jt 54:=mf Tryz.underlying54 ae aU Po hB Zh
def Zj{W:World}(hB:tJ W):Opn prog W 2 Zf 56:=ik Tryz.underlying56 ae rfl (eS (Kl hB) BR (kT (Kl hB)))
def VS{W:World}(hB:tJ W):Opn prog W 5 Oq 58:=ik Tryz.underlying58 ae rfl (eS (wA Tryz.underlying3) kI (eS (wB Tryz.underlying9) jh (eS (wB Tryz.underlying9) jh (kT (Zj hB)))))
def RK{W:World}(hB:tJ W):Opn prog W 1 Gh 23:=mf Tryz.underlying23 ae aU JV hB (VS hB)
def Km{W:World}(hB:tJ W):Opn prog W 1 Jx 27:=mf Tryz.underlying27 ae aU kI hB (wA Tryz.underlying3)
def VU{W:World}(hB:tJ W):Opn prog W 2 PO 82:=ik Tryz.underlying82 ae rfl (eS (wA Tryz.underlying3) kI (kT (Km hB)))
def RL{W:World}(hB:tJ W):Opn prog W 1 Hj 24:=mf Tryz.underlying24 ae aU JX hB (VU hB)
def MJ{W:World}(hB:tJ W):Opn prog W 2 wD 26:=ik Tryz.underlying26 ae rfl (eS (RK hB) xC (kT (RL hB)))
def Kk{W:World}:Ib prog W 2 wD 26:=yH Tryz.underlying26 ae rfl (uE (pK Tryz.underlying23) xC (ER (pK Tryz.underlying24)))
def IG:prog.bytesOf 209=32:=ae
def Ge:prog.bytesOf 58=88:=ae
def IH:prog.bytesOf 3=8:=ae
def Gf:prog.bytesOf 82=32:=ae
def OR{B:Nat}{H:Hp}{c:List AC}{us:List Gp}(h:Jt B H c us):∃u,c=[u]/\fN H u us/\us.length*32<=B:=by obtain⟨u,rfl,⟨css,h1,h2⟩,h3⟩:=h;refine⟨u,rfl,?_,by rwa [IG]at h3⟩;have:=ze (f:=gpC) (h2.mono λc x⟨_,c1,c2,e,a,c3,c4,e2,b,d⟩=>by rw[e,a.1,e2,b.1,d];rfl);rw[this]at h1;exact h1
def OU{B:Nat}{H:Hp}{c:List AC}{us:List Int}(h:Jx B H c us):∃u,c=[u]/\SlI H u us/\us.length*8<=B:=by obtain⟨u,rfl,⟨css,h1,h2⟩,h3⟩:=h;refine⟨u,rfl,?_,by rwa [IH]at h3⟩;have:=ze (f:=CZ) (h2.mono λc x⟨_,e,_⟩=>e);rw[this]at h1;exact h1
def abg{B:Nat}{H:Hp}{c:List AC}{x:Nm}(h:Zf B H c x):∃p q,c=[p,q]/\fN H p x.1/\fN H q x.2/\x.1.length*32<=B/\x.2.length*32<=B:=by obtain⟨c1,c2,rfl,h1,h2⟩:=h;obtain⟨p,rfl,a1,a2⟩:=OR h1;obtain⟨q,rfl,b1,b2⟩:=OR h2;exact⟨p,q,rfl,a1,b1,a2,b2⟩
def cell_of{B:Nat}{H:Hp}{c:List AC}{x:Cl}(h:Oq B H c x):ClR H c x/\x.2.2.2.1.length*32<=B/\x.2.2.2.2.length*32<=B:=by obtain⟨c1,c2,rfl,a,c3,c4,rfl,b,c5,c6,rfl,d,e⟩:=h;obtain⟨p,q,rfl,e1,e2,e3,e4⟩:=abg e;exact⟨⟨p,q,by rw[a.1,b.1,d.1];rfl,e1,e2⟩,e3,e4⟩
def TT{B:Nat}{H:Hp}{c:List AC}{l:List Cl}(h:Gh B H c l):∃u,c=[u]/\dD H u l/\l.length*88<=B/\∀x∈l,x.2.2.2.1.length*32<=B/\x.2.2.2.2.length*32<=B:=by obtain⟨u,rfl,⟨css,h1,h2⟩,h3⟩:=h;exact⟨u,rfl,⟨css,h1,h2.mono λc x⟨hl,h⟩=>⟨hl,(cell_of h).1⟩⟩,by rwa [Ge]at h3,Al.all (λc x⟨_,h⟩=>(cell_of h).2) h2⟩
def WC{B:Nat}{H:Hp}{c:List AC}{l:List Rl}(h:Hj B H c l):∃u,c=[u]/\ei H u l/\l.length*32<=B/\∀x∈l,x.2.length*8<=B:=by
 obtain⟨u,rfl,⟨css,h1,h2⟩,h3⟩:=h;have key:∀c x,PO B H c x->RlR H c x/\x.2.length*8<=B:=λc x⟨c1,c2,e,a,b⟩=>by obtain⟨u,rfl,b1,b2⟩:=OU b;exact⟨⟨u,by rw[e,a.1];rfl,b1⟩,b2⟩
 exact⟨u,rfl,⟨css,h1,h2.mono λc x⟨hl,h⟩=>⟨hl,(key c x h).1⟩⟩,by rwa [Gf]at h3,Al.all (λc x⟨_,h⟩=>(key c x h).2) h2⟩
def aco{B:Nat}{H:Hp}{c:List AC}{p:Pz}(hB:B<=140737488355328)(h:wD B H c p):∃a b,c=[a,b]/\dD H a p.1/\ei H b p.2/\PzB p:=by obtain⟨c1,c2,rfl,h1,h2⟩:=h;obtain⟨a,rfl,a1,a2,a3⟩:=TT h1;obtain⟨b,rfl,b1,b2,b3⟩:=WC h2;exact⟨a,b,rfl,a1,b1,⟨aS a2 hB,aS b2 hB,λx hx=>⟨aS (a3 x hx).1 hB,aS (a3 x hx).2 hB⟩,λx hx=>aS (b3 x hx) hB⟩⟩
def DN:cG prog 229=some (35,1):=ae
def EE:ly prog 229=some 1:=ae
def GM:loadT prog 63=some (true,3):=ae
def Qf:cM prog 63=some 3:=ae
def Yi:dB prog 63=some 32:=ae
def HY:(aW prog 63).map (λz=>(ofValue z).cells)=some [.i .i64 0,.o (.str []),.i .i64 0]:=ae
def ZT:∃z,aW prog 63=some z/\(ofValue z).cells.length=3:=by
 have h:=HY;cases hz:aW prog 63 with
 |none=>rw[hz]at h;cases h
 |some z=>rw[hz]at h;exact⟨z,rfl,by have:(ofValue z).cells=_:=eh h;rw[this];rfl⟩
def DZ:bG prog 63 0=some (0,3,1):=ae
def Ea:bG prog 63 2=some (2,3,1):=ae
def zD:Nat->Option (Nat×Nat):=λi=>(#[(0,1),(1,1),(2,1)]:Array (Nat×Nat))[i]?
def PH:jm prog 63=some zD:=ae
def EY:zD 0=some (0,1):=rfl
def EZ:zD 1=some (1,1):=rfl
def Fa:zD 2=some (2,1):=rfl
def JJ:loadT prog 30=some (false,1):=ae
def acS:cM prog 30=some 1:=ae
def vq:dB prog 30=some 24:=ae
def CE:(aW prog 30).map (λz=>(ofValue z).cells)=some [.o .nilS]:=ae
def CJ:∃z,aW prog 30=some z/\(ofValue z).cells.length=1:=by
 have h:=CE;cases hz:aW prog 30 with
 |none=>rw[hz]at h;cases h
 |some z=>rw[hz]at h;exact⟨z,rfl,by have:(ofValue z).cells=_:=eh h;rw[this];rfl⟩
def jb:cG prog 30=some (80,4):=ae
def JQ:ly prog 30=some 1:=ae
def Ip:dE prog 30=1:=ae
def Mx:loadT prog 80=some (true,4):=ae
def Xe:cM prog 80=some 4:=ae
def uk:dB prog 80=some 32:=ae
def NC:(aW prog 80).map (λz=>(ofValue z).cells)=some [.i .i64 0,.i .i64 0,.i .i64 0,.i .i64 0]:=ae
def xV:∃z,aW prog 80=some z/\(ofValue z).cells.length=4:=by
 have h:=NC;cases hz:aW prog 80 with
 |none=>rw[hz]at h;cases h
 |some z=>rw[hz]at h;exact⟨z,rfl,by have:(ofValue z).cells=_:=eh h;rw[this];rfl⟩
def Ji:bG prog 80 0=some (0,3,1):=ae
def Jj:bG prog 80 2=some (2,3,1):=ae
def Jk:bG prog 80 3=some (3,3,1):=ae
def Ca:Nat->Option (Nat×Nat):=λi=>(#[(0,1),(1,1),(2,1),(3,1)]:Array (Nat×Nat))[i]?
def Wc:jm prog 80=some Ca:=ae
def Ko:Ca 0=some (0,1):=rfl
def Kq:Ca 1=some (1,1):=rfl
def Kr:Ca 2=some (2,1):=rfl
def Ks:Ca 3=some (3,1):=rfl
def aaU:eqK prog 80=some [.i,.i,.i,.i]:=ae
def acO:bG prog 29 0=some (0,22,1):=ae
def acP:bG prog 29 1=some (1,26,2):=ae
def acQ:bG prog 29 2=some (3,27,1):=ae
def Vo:loadT prog 153=some (false,1):=ae
def OY:loadT prog 29=some (true,4):=ae
def Qd:cM prog 29=some 4:=ae
def Qn:(aW prog 29).map (λz=>(ofValue z).cells)=some [.o .nilS,.o .nilS,.o .nilS,.o .nilS]:=ae
def NX:dE prog 29=4:=ae
def DV:bG prog 29 0=some (0,22,1):=ae
def DW:bG prog 29 1=some (1,26,2):=ae
def DX:bG prog 29 2=some (3,27,1):=ae
def Vn:loadT prog 160=some (false,1):=ae
def Xk:cM prog 160=some 1:=ae
def XH:(aW prog 160).map (λz=>(ofValue z).cells)=some [.i .u64 0]:=ae
def HF:prog.underlying 160=some (.int .u64):=ae
def Tf:dE prog 160=4:=ae
def Vm:loadT prog 172=some (false,1):=ae
def Xj:cM prog 172=some 1:=ae
def XG:(aW prog 172).map (λz=>(ofValue z).cells)=some [.i .u64 0]:=ae
def xM:prog.underlying 172=some (.int .u64):=ae
def Te:dE prog 172=4:=ae
def Pc:loadT prog 256=some (false,1):=ae
def Qi:cM prog 256=some 1:=ae
def Qq:(aW prog 256).map (λz=>(ofValue z).cells)=some [.i .u64 0]:=ae
def Ob:dE prog 256=4:=ae
def aak:loadT prog 5=some (false,1):=ae
def qt:prog.underlying 5=some (.int .u8):=ae
def ZZ:dE prog 5=4:=ae
def JM:loadT prog 59=some (false,1):=ae
def Lj:cM prog 59=some 1:=ae
def TO:dB prog 59=some 24:=ae
def LB:(aW prog 59).map (λz=>(ofValue z).cells)=some [.o .nilS]:=ae
def XK:∃z,aW prog 59=some z/\(ofValue z).cells.length=1:=by
 have h:=LB;cases hz:aW prog 59 with
 |none=>rw[hz]at h;cases h
 |some z=>rw[hz]at h;exact⟨z,rfl,by have:(ofValue z).cells=_:=eh h;rw[this];rfl⟩
def rj:cG prog 59=some (63,3):=ae
def wb:ly prog 59=some 1:=ae
def by_cases:dB prog 89=some 24:=ae
def tyF:=zDm aj bS bF Cx xS Tc vV xd Io vX tt (zDm qg cV dw dG kO fG fW kr gO dF nH (zDm zX gQ jE Hz Qo dp sY NZ acR ke bK (zDm dZ cX eV gq zw zV Ao gG ij ri jF (zDm zx zY Ap dv gH DN EE GM Qf HY DZ (zDm Ea PH EY EZ Fa JJ acS CE jb JQ Ip (zDm Mx Xe NC Ji Jj Jk Wc Ko Kq Kr Ks (zDe acO acP acQ Vo)))))))
def AL:ao prog 27=true:=ae
def bN(v:List Int):Int->List Int->Int
 |n,[]=>n
 |n,i::l=>bN v (IntKind.i64.wrap (n+v.getD i.toNat 0)) l
def xL(H:Hp)(u w:AC)(t:Int)(ps v:List Int)(hu:SlI H u ps)(hw:SlI H w v)(hi:∀i∈ps,0<=i/\i<v.length)(hL:ps.length<=4611686018427387904):
  Con E2 27 [.agg [.i .i64 t,u],.one w] H (λ_=>False) λr _=>r=.one (.i .i64 (bN v 0 ps)):=by
 refine Con.qw (λH=>SlI H u ps) hu (λH=>SlI H w v) hw λH hu hw=>?_;refine C1.fD 23 [.tmp 4] Tryz.func27 λtm h0 h1=>?_;have fin:=rC E2 H 4 (bN v 0 ps);generalize C0:bN v 0 ps=r0 at fin;refine zG tyF λK hK=>?_;apply hK.out;refine R1.gen (λA1 H1=>Gr H H1/\H.nx<H1.nx/\H1.get H.nx=some (.arr [.i .i64 t,u] 82 0 0)/\slot A1.tm 1=.one (w)/\fb A1 H.nx (A1.nt=23/\A1.dfr=[])) ⟨(Fr.refl _).new _,ba _,aC rfl,zL⟩ ?_;rintro A1 H1 ⟨g1,m1,rx,t1,t2,z0,A0⟩;clear h0 h1 tm hK K;have hu:=hu.gr g1;have hw:=hw.gr g1;have l1:=hu.len;have l2:=hu.lt;refine zW tyF ?_;refine R1.dL λK k1 k2 k3 k4=>?_;refine R1.loop (λm A H2=>∃(i:Nat)(n:Int),m=ps.length-i/\i<=ps.length/\H2=H1/\bN v n (ps.drop i)=r0/\slot A.tm 1=.one (w)/\fu A n (slot A.tm 9=.one (u)/\lI A ps.length (jt A i (A.nt=23/\A.dfr=[])))) ?_ ps.length ⟨0,0,rfl,Nat.zero_le _,rfl,C0,zL⟩;clear t1 t2 z0 A0 A1;rintro m A H2 ⟨i,n,rfl,U3,rfl,hr,t1,t5,t9,t10,t11,z0,A0⟩;refine zW tyF ?_;refine zI tyF (λhc=>?_) (λhc=>?_)
 ·have B0:i<ps.length:=aa;have ex:=aA B0;have M0:=List.drop_eq_getElem_cons B0;have Y1:=cK B0;have D0:=bW B0;generalize ps[i]=x at ex M0 Y1 D0;have X1:=bB i;obtain⟨L4,C8⟩:=hi x D0;obtain⟨id,g,off,cells,rfl,hid,W0,J0⟩:=hu.open aa;obtain⟨id',g',off',cells',rfl,U4,hgr',N5⟩:=hw.open aa;obtain⟨e1,e2⟩:=J0 i x ex;have ev:v[x.toNat]?=some (v.getD x.toNat 0):=by rw[bt,aA aa];rfl
  obtain⟨e3,e4⟩:=N5 _ _ ev;rw[M0,bN]at hr;clear J0 N5;refine zW tyF ?_;refine R1.dL λK2 q1 q2 q3 q4=>?_;refine zW (zDd tyF (ixC B0) (ixI L4 C8)) ?_;apply q1.out;refine zW tyF ?_;exact⟨ps.length-(i+1),aa,i+1,_,rfl,B0,rfl,hr,zL⟩
 have U0:i=ps.length:=aa;refine zW tyF ?_;apply k2.out;refine zW tyF ?_;rw[U0,ct,bN]at hr;exact fin (n) _ _ qp qe (g1) (hr)
def IC:ao prog 99=true:=ae
def ID:ao prog 50=true:=ae
def Tq:ao prog 98=true:=ae
def XX:ao prog 142=true:=ae
def Gb:ao prog 128=true:=ae
def qO:ao prog 23=true:=ae
def To:ao prog 72=true:=ae
def KG(H:Hp)(u w:AC)(t:Int)(ps v:List Int)(hu:SlI H u ps)(hw:SlI H w v)(hi:∀i∈ps,0<=i/\i<v.length)(hL:ps.length<=4611686018427387904):
  Con E2 164 [.agg [.i .i64 t,u],.one w] H (λ_=>False) λr _=>r=.one (.i .i64 (bN v 0 ps)):=by
 refine Con.qw (λH=>SlI H u ps) hu (λH=>SlI H w v) hw λH hu hw=>?_;refine C1.fD 25 [.tmp 4] Tryz.func164 λtm h0 h1=>?_;have fin:=rC E2 H 4 (bN v 0 ps);generalize C0:bN v 0 ps=r0 at fin;refine zG tyF λK hK=>?_;apply hK.out;refine R1.gen (λA1 H1=>Gr H H1/\H.nx<H1.nx/\H1.get H.nx=some (.arr [.i .i64 t,u] 82 0 0)/\slot A1.tm 1=.one (w)/\fb A1 H.nx (A1.nt=25/\A1.dfr=[])) ⟨(Fr.refl _).new _,ba _,aC rfl,zL⟩ ?_;rintro A1 H1 ⟨g1,m1,rx,t1,t2,z0,A0⟩;clear h0 h1 tm hK K;have hu:=hu.gr g1;have hw:=hw.gr g1;have l1:=hu.len;have l2:=hu.lt;refine zW tyF ?_;refine R1.dL λK k1 k2 k3 k4=>?_;refine R1.loop (λm A H2=>∃(i:Nat)(n:Int),m=ps.length-i/\i<=ps.length/\H2=H1/\bN v n (ps.drop i)=r0/\slot A.tm 1=.one (w)/\fb A H.nx (fu A n (eO A 6 (.i .i64 (i:Int)) 25 []))) ?_ ps.length ⟨0,0,rfl,Nat.zero_le _,rfl,C0,zL⟩;clear t1 t2 z0 A0 A1;rintro m A H2 ⟨i,n,rfl,U3,rfl,hr,t1,t2,t5,t6,z0,A0⟩;refine zW tyF ?_;refine zI tyF (λhc=>?_) (λhc=>?_)
 ·have B0:i<ps.length:=aa;have ex:=aA B0;have M0:=List.drop_eq_getElem_cons B0;have Y1:=cK B0;have D0:=bW B0;generalize ps[i]=x at ex M0 Y1 D0;have X1:=bB i;obtain⟨L4,C8⟩:=hi x D0;obtain⟨id,g,off,cells,rfl,hid,W0,J0⟩:=hu.open aa;obtain⟨id',g',off',cells',rfl,U4,hgr',N5⟩:=hw.open aa;obtain⟨e1,e2⟩:=J0 i x ex;have ev:v[x.toNat]?=some (v.getD x.toNat 0):=by rw[bt,aA aa];rfl
  obtain⟨e3,e4⟩:=N5 _ _ ev;rw[M0,bN]at hr;clear J0 N5;refine zW tyF ?_;refine R1.dL λK2 q1 q2 q3 q4=>?_;refine zW (zDd tyF (ixC B0) (ixI L4 C8)) ?_;apply q1.out;refine zW tyF ?_;exact⟨ps.length-(i+1),aa,i+1,_,rfl,B0,rfl,hr,zL⟩
 have U0:i=ps.length:=aa;refine zW tyF ?_;apply k2.out;refine zW tyF ?_;rw[U0,ct,bN]at hr;exact fin (n) _ _ qp qe (g1) (hr)
def mV(n:Int):Bool:=decide (n<1)||decide (1099511627776<n)
def CX:Nat->List Int->Int
 |_,[]=>-1
 |n,x::l=>if mV x=true then(n:Int)else CX (n+1) l
def Jv:∀(l:List Int)(n:Nat),decide (0<=CX n l)=l.any mV
 |[],_=>rfl
 |x::l,n=>by
  rw[CX,List.any_cons];cases h:mV x with
  |true=>rw[ad rfl,Bool.true_or];exact bp aa
  |false=>rw[ab zA8,Bool.false_or];exact Jv l (n+1)
def Lv(H:Hp)(n:Int):Con E2 99 [.one (.i .i64 n)] H (λ_=>False) λr _=>r=.one (.b (mV n)):=by
 refine Con.xw λH=>?_;refine C1.jR 9 [.tmp 2] Tryz.func99 λtm h0=>?_;have fin:=CW E2 H 2 (mV n);generalize C0:mV n=r0 at fin;unfold mV at C0;by_cases c0:n<1
 ·refine zW tyF ?_;exact fin (true) _ _ qp qe (Fr.refl _) ((by rw[bp c0,Bool.true_or]at C0;exact C0))
 refine zW tyF ?_;exact fin ((decide (1099511627776<n))) _ _ qp qe (Fr.refl _) ((by rw[bJ c0,Bool.false_or]at C0;exact C0))
def UA(H:Hp)(v:AC)(l:List Int)(hv:SlI H v l)(hL:l.length<=4611686018427387904):
  Con E2 142 [.one v,.one (.o (.clo 99 []))] H (λ_=>False) λr _=>r=.one (.i .i64 (CX 0 l)):=by
 refine Con.lT (λH=>SlI H v l) hv λH hv=>?_;refine C1.fD 19 [.tmp 4] Tryz.func142 λtm h0 h1=>?_;have fin:=rC E2 H 4 (CX 0 l);generalize C0:CX 0 l=r0 at fin;have l1:=hv.len;have l2:=hv.lt;refine zW tyF ?_;refine R1.dL λK k1 k2 k3 k4=>?_;refine R1.loop (λm A H2=>∃i:Nat,m=l.length-i/\i<=l.length/\Gr H H2/\CX i (l.drop i)=r0/\eQ A.tm 0 1 (v) (.o (.clo 99 [])) (gU A l.length (lK A i (A.nt=19/\A.dfr=[])))) ?_ l.length ⟨0,rfl,Nat.zero_le _,Fr.refl _,C0,zL⟩;clear h0 h1 tm l1 l2;rintro m A H2 ⟨i,rfl,U3,g2,hr,t0,t1,t7,t8,z0,A0⟩;refine zW tyF ?_;refine zI tyF (λhc=>?_) (λhc=>?_)
 ·have B0:i<l.length:=aa;have ex:=aA B0;have M0:=List.drop_eq_getElem_cons B0;have Y1:=cK B0;have D0:=bW B0;generalize l[i]=x at ex M0 Y1 D0;have X1:=bB i;obtain⟨id,g,off,cells,rfl,hid,W0,J0⟩:=(hv.gr g2).open aa;obtain⟨e1,e2⟩:=J0 i x ex;rw[M0,CX]at hr;clear J0;refine zW tyF ?_;refine R1.dL λK2 q1 q2 q3 q4=>?_;refine zW tyF ?_;refine zG (zDd tyF (ixC B0) IC) λK3 F8=>?_;refine WE.con (Lv H2 x) λw H4 g4 hw=>?_;subst hw;have g4:=g2.gr g4;cases hb:mV x with
  |true=>refine zK tyF ?_;exact q4.out _ _ (k4.out _ _ (fin ((i:Int)) _ _ qp qe (g4) ((by rw[ad hb]at hr;exact hr))))
  |false=>refine zK tyF ?_;rw[ab (by rw[hb];exact zA8)]at hr;apply q1.out;refine zW tyF ?_;exact⟨l.length-(i+1),aa,i+1,rfl,B0,g4,hr,zL⟩
 have U0:i=l.length:=aa;refine zW tyF ?_;apply k2.out;refine zW tyF ?_;rw[U0,ct,CX]at hr;exact fin (-1) _ _ qp qe (g2) (hr)
def QR(H:Hp)(v:AC)(l:List Int)(hv:SlI H v l)(hL:l.length<=4611686018427387904):
  Con E2 98 [.one v,.one (.o (.clo 99 []))] H (λ_=>False) λr _=>r=.one (.b (l.any mV)):=by
 refine Con.lT (λH=>SlI H v l) hv λH hv=>?_;refine C1.fD 9 [.tmp 4] Tryz.func98 λtm h0 h1=>?_;have fin:=CW E2 H 4 (l.any mV);generalize C0:l.any mV=r0 at fin;refine zW tyF ?_;refine zG (qA tyF XX) λK hK=>?_;refine WE.con (UA H v l hv hL) λw H4 g4 hw=>?_;subst hw;refine zK tyF ?_;exact fin ((decide (0<=CX 0 l))) _ _ qp qe (g4) ((Jv l 0).trans C0)
def uK(lc:List Cl)(v:List Int):Bool:=((v.length:Int)==(lc.length:Int))&&!(v.any mV)
def Dj(H:Hp)(a b w:AC)(lc:List Cl)(v:List Int)(ha:dD H a lc)(hw:SlI H w v)(hL:v.length<=4611686018427387904):
  Con E2 50 [.agg [a,b],.one w] H (λ_=>False) λr _=>r=.one (.b (uK lc v)):=by
 refine Con.qw (λH=>dD H a lc) ha (λH=>SlI H w v) hw λH ha hw=>?_;refine C1.fD 16 [.tmp 4] Tryz.func50 λtm h0 h1=>?_;have fin:=CW E2 H 4 (uK lc v);generalize C0:uK lc v=r0 at fin;unfold uK at C0;refine zG tyF λK hK=>?_;apply hK.out;refine R1.gen (λA1 H1=>Gr H H1/\H.nx<H1.nx/\H1.get H.nx=some (.arr [a,b] 26 0 0)/\slot A1.tm 1=.one (w)/\fb A1 H.nx (A1.nt=16/\A1.dfr=[])) ⟨(Fr.refl _).new _,ba _,aC rfl,zL⟩ ?_;rintro A1 H1 ⟨g1,m1,rx,t1,t2,z0,A0⟩;clear h0 h1 tm hK K;have ha:=ha.gr g1;have hw:=hw.gr g1;have l1:=ha.len;have l2:=ha.lt;have l3:=hw.len;have l4:=hw.lt;cases hc:((v.length:Int)==(lc.length:Int))with
 |false=>refine zW tyF ?_;exact fin (false) _ _ qp qe (g1) ((by rw[hc,Bool.false_and]at C0;exact C0))
 |true=>refine zG (qA tyF Tq) λK hK=>?_;refine WE.con (QR H1 w v hw hL) λw H4 g4 hw=>?_;subst hw;refine zK tyF ?_;exact fin ((!(v.any mV))) _ _ qp qe (g1.gr g4) ((by rw[hc,Bool.true_and]at C0;exact C0))
def Dd(H:Hp)(a b w:AC)(lc:List Cl)(v:List Int)(ha:dD H a lc)(hw:SlI H w v)(hL:v.length<=4611686018427387904):
  Con E2 128 [.agg [a,b],.one w] H (λ_=>False) λr _=>r=.one (.b (uK lc v)):=by
 refine Con.qw (λH=>dD H a lc) ha (λH=>SlI H w v) hw λH ha hw=>?_;refine C1.fD 30 [.tmp 4] Tryz.func128 λtm h0 h1=>?_;have fin:=CW E2 H 4 (uK lc v);generalize C0:uK lc v=r0 at fin;unfold uK at C0;refine zG tyF λK hK=>?_;apply hK.out;refine R1.gen (λA1 H1=>Gr H H1/\H.nx<H1.nx/\H1.get H.nx=some (.arr [a,b] 26 0 0)/\slot A1.tm 1=.one (w)/\fb A1 H.nx (A1.nt=30/\A1.dfr=[])) ⟨(Fr.refl _).new _,ba _,aC rfl,zL⟩ ?_;rintro A1 H1 ⟨g1,m1,rx,t1,t2,z0,A0⟩;clear h0 h1 tm hK K;have ha:=ha.gr g1;have hw:=hw.gr g1;have l1:=ha.len;have l2:=ha.lt;have l3:=hw.len;have l4:=hw.lt;cases hc:((v.length:Int)==(lc.length:Int))with
 |false=>refine zW tyF ?_;exact fin (false) _ _ qp qe (g1) ((by rw[hc,Bool.false_and]at C0;exact C0))
 |true=>
  rw[hc,Bool.true_and]at C0;refine zW tyF ?_;refine R1.dL λK k1 k2 k3 k4=>?_;refine R1.loop (λm A H2=>∃i:Nat,m=v.length-i/\i<=v.length/\H2=H1/\(!((v.drop i).any mV))=r0/\slot A.tm 1=.one (w)/\fu A i (A.nt=30/\A.dfr=[])) ?_ v.length ⟨0,rfl,Nat.zero_le _,rfl,C0,zL⟩;clear t1 t2 z0 A0 A1 C0;rintro m A H2 ⟨i,rfl,U3,rfl,hr,t1,t5,z0,A0⟩;refine zW tyF ?_;refine zI tyF (λhc=>?_) (λhc=>?_)
  ·have B0:i<v.length:=aa;have ex:=aA B0;have M0:=List.drop_eq_getElem_cons B0;have Y1:=cK B0;have D0:=bW B0;generalize v[i]=x at ex M0 Y1 D0;have X1:=bB i;obtain⟨id,g,off,cells,rfl,hid,W0,J0⟩:=hw.open aa;obtain⟨e1,e2⟩:=J0 i x ex;rw[M0,List.any_cons]at hr;clear J0;refine zW tyF ?_;refine R1.dL λK2 q1 q2 q3 q4=>?_;by_cases c0:x<1
   ·refine zW (qA tyF (ixC B0)) ?_;exact q4.out _ _ (k4.out _ _ (fin (false) _ _ qp qe (g1) ((by unfold mV at hr;rw[bp c0,Bool.true_or,Bool.true_or]at hr;exact hr))))
   by_cases c1:1099511627776<x
   ·refine zW (qA tyF (ixC B0)) ?_;exact q4.out _ _ (k4.out _ _ (fin (false) _ _ qp qe (g1) ((by unfold mV at hr;rw[bp c1,Bool.or_true,Bool.true_or]at hr;exact hr))))
   refine zW (qA tyF (ixC B0)) ?_;apply q1.out;refine zW tyF ?_;have hb:mV x=false:=by unfold mV;rw[bJ c0,bJ c1];rfl
   rw[hb,Bool.false_or]at hr;exact⟨v.length-(i+1),aa,i+1,rfl,B0,rfl,hr,zL⟩
  have U0:i=v.length:=aa;refine zW tyF ?_;apply k2.out;refine zW tyF ?_;rw[U0,ct]at hr;exact fin (true) _ _ qp qe (g1) (hr)
def gJ(o:Option (List Lad))(p:Pz)(v:List Int):Int:=if jT o p≠0 then jT o p else if uK p.1 v=false then 54 else 0
def qj(H:Hp)(k a b w:AC)(o:Option (List Lad))(p:Pz)(v:List Int)(hk:dN H k o)(hL:∀ls,o=some ls->∀x∈ls,x.2.length<=1000000)(ha:dD H a p.1)(hb:ei H b p.2)(hB:PzB p)(hw:SlI H w v)(hV:v.length<=4611686018427387904):
  Con E2 23 [.one k,.agg [a,b],.one w] H (λ_=>False) λr _=>r=.one (.i .i64 (gJ o p v)):=by
 refine Con.of rfl λlg=>?_;have hk:dN ⟨H.t,H.nx,lg⟩ k o:=dN.same (H:=H) rfl rfl hk;have ha:dD ⟨H.t,H.nx,lg⟩ a p.1:=ha;have hb:ei ⟨H.t,H.nx,lg⟩ b p.2:=hb;have hw:SlI ⟨H.t,H.nx,lg⟩ w v:=hw;generalize(⟨H.t,H.nx,lg⟩:Hp)=H at hk ha hb hw |-
 refine C1.yV 18 [.tmp 6] Tryz.func23 λtm h0 h1 h2=>?_;have fin:=rC E2 H 6 (gJ o p v);generalize C0:gJ o p v=r0 at fin;unfold gJ at C0;refine zG tyF λK hK=>?_;apply hK.out;refine R1.gen (λA1 H1=>Gr H H1/\H.nx<H1.nx/\H1.get H.nx=some (.arr [a,b] 26 0 0)/\oA A1 0 2 4 (k) (w) (.o (.ptr H.nx 0 0 2)) 18 []) ⟨(Fr.refl _).new _,ba _,aC rfl,zL⟩ ?_;rintro A1 H1 ⟨g1,m1,rx,t0,t2,t4,z0,A0⟩;clear h0 h1 h2 tm hK K;have hk:=hk.gr g1;have ha:=ha.gr g1;have hb:=hb.gr g1;have hw:=hw.gr g1;refine zG (qA tyF LO) λK hK=>?_;refine WE.con (IN H1 k a b o p hk hL ha hb hB) λw' H2 g2 hq=>?_;subst hq;obtain⟨rx,m1⟩:=bD g2 m1 rx;have ha:=ha.gr g2;have hw:=hw.gr g2;have g2:=g1.gr g2;clear g1;generalize jT o p=e0 at C0;by_cases Y0:e0=0
 case neg=>have ce:(e0==0)=false:=aF Y0;refine zK tyF ?_;exact fin (e0) _ _ qp qe (g2) ((by rw[ad Y0]at C0;exact C0))
 rw[ab (λh=>h Y0)]at C0;have ce:(e0==0)=true:=by rw[Y0];rfl
 refine zK tyF ?_;refine zG (qA tyF ID) λK hK=>?_;refine WE.con (Dj H2 a b w p.1 v ha hw hV) λw' H3 g3 hq=>?_;subst hq;have g3:=g2.gr g3;cases hv:uK p.1 v with
 |false=>refine zK tyF ?_;exact fin (54) _ _ qp qe (g3) ((by rw[ad hv]at C0;exact C0))
 |true=>refine zK tyF ?_;exact fin (0) _ _ qp qe (g3) ((by rw[hv,ab (by decide:¬(true=false))]at C0;exact C0))
def Qy(H:Hp)(k a b w:AC)(o:Option (List Lad))(p:Pz)(v:List Int)(hk:mr H k o)(hL:∀ls,o=some ls->(∀x∈ls,x.2.length<=1000000)/\ls.length<=1000000)(ha:dD H a p.1)(hb:ei H b p.2)(hB:PzB p)(hw:SlI H w v)(hV:v.length<=4611686018427387904):
  Con E2 72 [.one k,.agg [a,b],.one w] H (λ_=>False) λr _=>r=.one (.i .i64 (gJ o p v)):=by
 refine Con.of rfl λlg=>?_;have hk:mr ⟨H.t,H.nx,lg⟩ k o:=mr.same (H:=H) rfl rfl hk;have ha:dD ⟨H.t,H.nx,lg⟩ a p.1:=ha;have hb:ei ⟨H.t,H.nx,lg⟩ b p.2:=hb;have hw:SlI ⟨H.t,H.nx,lg⟩ w v:=hw;generalize(⟨H.t,H.nx,lg⟩:Hp)=H at hk ha hb hw |-
 refine C1.yV 18 [.tmp 6] Tryz.func72 λtm h0 h1 h2=>?_;have fin:=rC E2 H 6 (gJ o p v);generalize C0:gJ o p v=r0 at fin;unfold gJ at C0;refine zG tyF λK hK=>?_;apply hK.out;refine R1.gen (λA1 H1=>Gr H H1/\H.nx<H1.nx/\H1.get H.nx=some (.arr [a,b] 26 0 0)/\oA A1 0 2 4 (k) (w) (.o (.ptr H.nx 0 0 2)) 18 []) ⟨(Fr.refl _).new _,ba _,aC rfl,zL⟩ ?_;rintro A1 H1 ⟨g1,m1,rx,t0,t2,t4,z0,A0⟩;clear h0 h1 h2 tm hK K;have hk:=hk.gr g1;have ha:=ha.gr g1;have hb:=hb.gr g1;have hw:=hw.gr g1;refine zG (qA tyF Ix) λK hK=>?_;refine WE.con (Hf H1 k a b o p hk hL ha hb hB) λw' H2 g2 hq=>?_;subst hq;obtain⟨rx,m1⟩:=bD g2 m1 rx;have ha:=ha.gr g2;have hw:=hw.gr g2;have g2:=g1.gr g2;clear g1;generalize jT o p=e0 at C0;by_cases Y0:e0=0
 case neg=>have ce:(e0==0)=false:=aF Y0;refine zK tyF ?_;exact fin (e0) _ _ qp qe (g2) ((by rw[ad Y0]at C0;exact C0))
 rw[ab (λh=>h Y0)]at C0;have ce:(e0==0)=true:=by rw[Y0];rfl
 refine zK tyF ?_;refine zG (qA tyF Gb) λK hK=>?_;refine WE.con (Dd H2 a b w p.1 v ha hw hV) λw' H3 g3 hq=>?_;subst hq;have g3:=g2.gr g3;cases hv:uK p.1 v with
 |false=>refine zK tyF ?_;exact fin (54) _ _ qp qe (g3) ((by rw[ad hv]at C0;exact C0))
 |true=>refine zK tyF ?_;exact fin (0) _ _ qp qe (g3) ((by rw[hv,ab (by decide:¬(true=false))]at C0;exact C0))
def En{lc:List Cl}:∀{lr:List Rl}{T S:List Int},goR lc T S lr=true->∀x∈lr,(0<=x.1/\x.1<lc.length)/\∀m∈x.2,0<=m/\m<lc.length
 |[],_,_,_,_,h=>by cases h
 |y::lr,T,S,h,x,hx=>by
  rw[goR]at h;by_cases c0:y.1<0
  ·rw[ad c0]at h;cases h
  rw[ab c0]at h;by_cases c1:(lc.length:Int)<=y.1
  ·rw[ad c1]at h;cases h
  rw[ab c1]at h;cases c2:T.any (λz=>z==y.1)with
  |true=>rw[c2,ad rfl]at h;cases h
  |false=>
  rw[c2,ab zA8]at h;cases c3:gK lc y.1 [] y.2 with
  |false=>rw[c3,ad rfl]at h;cases h
  |true=>
  rw[c3,ab (by decide:¬(true=false))]at h;rcases List.mem_cons.1 hx with rfl|hx
  ·exact⟨⟨aa,aa⟩,pL lc _ _ [] c3⟩
  exact En h x hx
def zh{o:Option (List Lad)}{p:Pz}{v:List Int}(h:gJ o p v=0):p.1.length<=64/\p.2.length<=64/\v.length=p.1.length/\jT o p=0/\∀x∈p.2,(0<=x.1/\x.1<v.length)/\∀m∈x.2,0<=m/\m<v.length:=by
 unfold gJ at h;by_cases c0:jT o p≠0
 ·rw[ad c0]at h;exact absurd h c0
 rw[ab c0]at h;have c0:=Classical.not_not.1 c0;obtain⟨_,_,h1,h2,_,h4⟩:=qR c0;cases hv:uK p.1 v with
 |false=>rw[ad hv]at h;cases h
 |true=>
  unfold uK at hv;rw[aV]at hv;have hl:v.length=p.1.length:=by have:=eq_of_beq hv.1;omega
  exact⟨h1,h2,hl,c0,by rw[hl];exact En h4⟩
def TF:ao prog 116=true:=ae
def Tn:ao prog 66=true:=ae
def AG:ao prog 79=true:=ae
def az:List Pr->Int->List Int
 |[],_=>[]
 |[_],n=>[n]
 |_::y::l,n=>n%y.2::az (y::l) (n/y.2)
def eC:∀(us:List Pr)(n:Int),(az us n).length=us.length
 |[],_=>rfl
 |[_],_=>rfl
 |_::y::l,n=>by rw[az,List.length_cons,eC (y::l),List.length_cons];rfl
def OP(l:List Int):l.flatMap CZ=l.map (AC.i .i64):=by
 induction l with
 |nil=>rfl
 |cons x l ih=>rw[List.flatMap_cons,ih];rfl
def Hs{H:Hp}{q:Nat}{l:List Int}{lo gen:Nat}(hg:H.get q=some (.arr (l.map (AC.i .i64)) 3 lo gen))(hl:lo<=gen)(hq:q<H.nx):SlI H (.o (.sl q gen 0 l.length 1)) l:=
 ⟨by rw[OP,cP,cr],.inr ⟨q,gen,0,rfl,hq,l.map (AC.i .i64),by rw[hg];exact cH hl (ai _),by rw[cP];omega,by rw[List.drop_zero,iy (by rw[cP];omega),OP]⟩⟩
def WJ{α:Type}(out:List α)(z a:α)(k:Nat):(out++List.replicate (k+1) z).set out.length a=(out++[a])++List.replicate k z:=by rw[List.set_append_right _ _ (ai _),ga,List.replicate_succ,List.set_cons_zero,bL];rfl
def So(H:Hp)(nm:List UInt8)(u:AC)(us:List Pr)(n:Int)(hu:SlP H u us)(hL:us.length<=1000000)(Z2:0<=n)(hn:n<=1099511627776)(hf:∀x∈us,1<=x.2/\x.2<=60):
  Con E2 116 [.agg [.o (.str nm),u],.one (.i .i64 n)] H (λ_=>False) λr H'=>∃c,r=.one c/\SlI H' c (az us n)/\∀id∈(AV.one c).ids,H.nx<=id:=by
 refine Con.BB (λH=>SlP H u us) hu λH e hu=>?_;rw[<-e];clear e;refine C1.fD 48 [.tmp 4] Tryz.func116 λtm h0 h1=>?_;obtain⟨z,hz,z9⟩:∃z,aW prog 3=some z/\(ofValue z).cells=[.i .i64 0]:=⟨.int .i64 0,CI,rfl⟩;have mk:∀H,dY prog H 27 (.one (.i .i64 (us.length:Int))) (.one (.i .i64 (us.length:Int)))=.val (.one (.o (.sl H.nx 0 0 us.length 1))) (H.new (.arr ((List.replicate us.length (0:Int)).map (AC.i .i64)) 3 0 0)):=λH=>by rw[pE dp mB hz (by rw[z9];rfl) aa,z9,wF,List.map_replicate]
 clear hz z9;have hu0:=hu;refine zG tyF λK hK=>?_;apply hK.out;refine R1.gen (λA1 H1=>Gr H H1/\H.nx+1=H1.nx/\H1.get H.nx=some (.arr [.o (.str nm),u] 51 0 0)/\dm A1 n (fb A1 H.nx (A1.nt=48/\A1.dfr=[]))) ⟨(Fr.refl _).new _,rfl,aC rfl,zL⟩ ?_;rintro A1 H1 ⟨g1,n1,rx,t1,t2,z0,A0⟩;clear h0 h1 tm hK K;have m1:H.nx<H1.nx:=aa;obtain⟨N,hN⟩:=dI H.nx;rw[<-hN]at n1 rx t2 m1;replace hN:=ay hN;replace n1:=ay n1;have hu:=hu.gr g1;have l1:=hu.len;have l2:=hu.lt;refine zG (qA tyF mk) λK hK=>?_;apply hK.out;refine R1.gen (λA2 H2=>Gr H1 H2/\N+1<H2.nx/\H2.get (N+1)=some (.arr ((([]:List Int)++List.replicate us.length 0).map (AC.i .i64)) 3 0 0)/\dm A2 n (fb A2 N (eO A2 5 (.o (.sl (N+1) 0 0 us.length 1)) 48 [])))
  ⟨(Fr.refl _).new _,by have:=n1.out;show _<H1.nx+1;omega,aC n1.out,?_⟩ ?_
 ·rw[n1.out];exact zL
 clear t1 t2 z0 A0 A1 mk l1 l2 hK K;rintro A2 H2 ⟨g2,m2,rs,t1,t2,t5,z0,A0⟩;obtain⟨rx,m1⟩:=bD g2 m1 rx;have hu:=hu.gr g2;have g2:=g1.gr g2;clear g1 n1;refine zW (qA tyF m2) ?_;refine R1.dL λK k1 k2 k3 k4=>?_;refine R1.loop (λm A H3=>∃(i:Nat)(out:List Int)(k:Int),m=us.length-i/\i<=us.length/\out.length=i/\0<=k/\k<=1099511627776/\Gr H H3/\N<H3.nx/\N+1<H3.nx/\H3.get N=some (.arr [.o (.str nm),u] 51 0 0)/\H3.get (N+1)=some (.arr ((out++List.replicate (us.length-i) 0).map (AC.i .i64)) 3 0 0)/\out++az (us.drop i) k=az us n /\
   slot A.tm 1=.one (.i .i64 (k:Int))/\slot A.tm 2=.one ((.o (.ptr N 0 0 2)))/\slot A.tm 5=.one ((.o (.sl (N+1) 0 0 us.length 1)))/\slot A.tm 12=.one (.i .i64 (us.length:Int))/\slot A.tm 13=.one (.i .i64 (i:Int))/\A.nt=48/\A.dfr=[]) ?_ us.length
  ⟨0,[],n,rfl,Nat.zero_le _,rfl,Z2,hn,g2,m1,m2,rx,rs,rfl,zL⟩
 clear t1 t2 t5 z0 A0 A2 rx rs hu m1 m2 k3 g2;rintro m A H3 ⟨i,out,k,rfl,hi,Z3,M4,C6,g3,m1,m2,rx,rs,j8,t1,t2,t5,t12,t13,z0,A0⟩;refine zW tyF ?_;refine zI tyF (λhc=>?_) (λhc=>?_)
 ·have B0:i<us.length:=aa;have X1:=bB i;have hle:i+1<=((out++List.replicate (us.length-i) (0:Int)).map (AC.i .i64)).length:=by rw[cP,aI,uP];omega
  have S4:∀a:Int,List.take i ((out++List.replicate (us.length-i) (0:Int)).map (AC.i .i64))++AC.i .i64 a::List.drop (i+1) ((out++List.replicate (us.length-i) (0:Int)).map (AC.i .i64))=((out++[a])++List.replicate (us.length-(i+1)) 0).map (AC.i .i64):=λa=>by rw[setRow (AC.i .i64) _ _ a (by rw[aI,uP];omega)];have e:us.length-i=(us.length-(i+1))+1:=aa;rw[e,<-Z3,WJ]
  refine zW tyF ?_;refine R1.dL λK2 q1 q2 q3 q4=>?_;have B2:(az us n).length=us.length:=eC us n;by_cases I2:i+1=us.length
  ·have ce:(((i+1:Nat):Int)==(us.length:Int))=true:=by rw[I2];exact dk _
   replace I2:=ay I2;refine zW (zDf tyF (ixC B0) S4 cr hle) ?_;refine q3.out 0 _ _ aU ?_;apply k2.out;refine zW tyF ?_;have M0:us.drop i=[us[i]]:=by rw[List.drop_eq_getElem_cons B0,pU (by have:=I2.out;omega)]
   rw[M0,az]at j8;have e0:us.length-(i+1)=0:=by have:=I2.out;omega
   have O6:=Hs (H:=H3.mod (N+1) (.arr ((az us n).map (AC.i .i64)) 3 0 0)) (aq rfl) (ai _) m2;rw[B2]at O6;rw[e0,List.replicate_zero,List.append_nil,j8];exact⟨_,_,aw (.o (.sl (N+1) 0 0 us.length 1)) (.inr rfl) qe qp,g3.mod _ (.inl (by have:=hN.out;omega)),λ_=>⟨_,rfl,O6,λk hk=>by have:=hN.out;rw[List.mem_singleton.1 hk];omega⟩⟩
  have ce:(((i+1:Nat):Int)==(us.length:Int))=false:=aF aa;have R2:i+1<us.length:=aa;have M0:us.drop i=us[i]::us[i+1]::us.drop (i+2):=by rw[List.drop_eq_getElem_cons B0,List.drop_eq_getElem_cons R2]
  have hdr2:us.drop (i+1)=us[i+1]::us.drop (i+2):=List.drop_eq_getElem_cons R2;have ey:=aA R2;obtain⟨J4,hy2⟩:=hf us[i+1] (bW R2);rw[M0,az,<-hdr2]at j8;clear M0 hdr2;generalize us[i+1]=y at ey J4 hy2 j8;obtain⟨id,g,off,cells,rfl,W2,G_,J0⟩:=hu0.open aa;have hidN:id<N:=by have:=hN.out;omega
  have hid:id<H3.nx:=aa;have W0:rowOf (H3.get id) g=some cells:=by rw[g3.get _ W2 aE];exact G_
  have hgm:∀X,rowOf ((H3.mod (N+1) X).get id) g=some cells:=λX=>by rw[aB aa];exact W0
  have hgx:∀X,(H3.mod (N+1) X).get N=some (.arr [.o (.str nm),.o (.sl id g off us.length 2)] 51 0 0):=λX=>(aB aa).trans rx;have hy:=J0 _ y ey;have y1:=hy.snd;have y2:=hy.le2;clear J0 hy W2 G_;have hy0:y.2≠0:=aa;have e1:k.tmod y.2=k%y.2:=Int.tmod_eq_emod_of_nonneg M4;have e3:k/y.2<=k:=Int.ediv_le_self _ M4;have e4:0<=k/y.2:=Int.ediv_nonneg M4 aa;have e2:IntKind.i64.wrap (k.tdiv y.2)=k/y.2:=by rw[Int.tdiv_eq_ediv_of_nonneg M4];exact gE aa aa
  refine zW (zDj tyF (ixC B0) (ixC R2) S4 cr hle arQ (acp hy0) (acq hy0)) ?_;apply q1.out;refine zW tyF ?_;exact⟨us.length-(i+1),aa,i+1,out++[k%y.2],k/y.2,rfl,B0,by rw[aI,Z3];rfl,e4,aa,g3.mod _ (.inl (by have:=hN.out;omega)),m1,m2,(aB aa).trans rx,aq rfl,by rw[bL];exact j8,zL⟩
 have U0:i=us.length:=aa;refine zW tyF ?_;apply k2.out;refine zW tyF ?_;rw[U0,ct,az,List.append_nil]at j8;rw[U0,ga,List.replicate_zero,List.append_nil,j8]at rs;have O6:=Hs rs (ai _) m2;rw[eC us n]at O6;exact⟨_,_,aw (.o (.sl (N+1) 0 0 us.length 1)) (.inr rfl) qe qp,g3,λ_=>⟨_,rfl,O6,λk hk=>by have:=hN.out;rw[List.mem_singleton.1 hk];omega⟩⟩
def Dy:ao prog 130=true:=ae
def eB:List Int->Int
 |[]=>0
 |x::l=>if x=0 then eB l else x
def xu(H:Hp)(w:AC)(l:List Int)(hw:SlI H w l)(hL:l.length<=4611686018427387904):
  Con E2 79 [.one w] H (λ_=>False) λr _=>r=.one (.i .i64 (eB l)):=by
 refine Con.lT (λH=>SlI H w l) hw λH hw=>?_;refine C1.jR 15 [.tmp 2] Tryz.func79 λtm h0=>?_;have fin:=rC E2 H 2 (eB l);generalize C0:eB l=r0 at fin;have l1:=hw.len;have l2:=hw.lt;refine zW tyF ?_;refine R1.dL λK k1 k2 k3 k4=>?_;refine R1.loop (λm A H2=>∃i:Nat,m=l.length-i/\i<=l.length/\H2=H/\eB (l.drop i)=r0/\eQ A.tm 5 6 (w) (.i .i64 (l.length:Int)) (gU A i (A.nt=15/\A.dfr=[]))) ?_ l.length ⟨0,rfl,Nat.zero_le _,rfl,C0,zL⟩;clear h0 tm C0 l1 l2;rintro m A H2 ⟨i,rfl,U3,rfl,hr,t5,t6,t7,z0,A0⟩;refine zW tyF ?_;refine zI tyF (λhc=>?_) (λhc=>?_)
 ·have B0:i<l.length:=aa;have ex:=aA B0;have M0:=List.drop_eq_getElem_cons B0;have Y1:=cK B0;have D0:=bW B0;generalize l[i]=x at ex M0 Y1 D0;have X1:=bB i;obtain⟨id,g,off,cells,rfl,hid,W0,J0⟩:=hw.open aa;obtain⟨e1,e2⟩:=J0 i x ex;rw[M0,eB]at hr;clear J0;refine zW tyF ?_;refine R1.dL λK2 q1 q2 q3 q4=>?_;by_cases hx:x=0
  ·have ce:=beq_iff_eq.2 hx;rw[ad hx]at hr;replace hx:=ay hx;refine zW (qA tyF (ixC B0)) ?_;apply q1.out;refine zW tyF ?_;exact⟨l.length-(i+1),aa,i+1,rfl,B0,rfl,hr,zL⟩
  have ce:(x==0)=false:=aF hx;refine zW (qA tyF (ixC B0)) ?_;exact q4.out _ _ (k4.out _ _ (fin (x) _ _ qp qe (Fr.refl _) ((by rw[ab hx]at hr;exact hr))))
 have U0:i=l.length:=aa;refine zW tyF ?_;apply k2.out;refine zW tyF ?_;rw[U0,ct,eB]at hr;exact fin (0) _ _ qp qe (Fr.refl _) (hr)
def Ht{H:Hp}(a b:Int){e:TypeId}:SlI (H.new (.arr [.i .i64 a,.i .i64 b] e 0 0)) (.o (.sl H.nx 0 0 2 1)) [a,b]:=
 ⟨rfl,.inr ⟨H.nx,0,0,rfl,ba _,_,by rw[aC rfl];exact cH (ai _) (ai _),ai _,rfl⟩⟩
def cy(nm:List UInt8)(us:List Pr)(n:Int):List Int×Int:=if aP nm us≠0 then([],aP nm us)else if 0<=n/\n<=1099511627776 then(az us n,0)else([],8)
def Nn(H:Hp)(nm:List UInt8)(u:AC)(us:List Pr)(n:Int)(hu:SlP H u us):
  Con E2 66 [.agg [.o (.str nm),u],.one (.i .i64 n)] H (λ_=>False) λr H'=>∃c,r=.tup [(false,[c]),(false,[.i .i64 (cy nm us n).2])]/\SlI H' c (cy nm us n).1/\∀id∈(AV.one c).ids,H.nx<=id:=by
 refine Con.BB (λH=>SlP H u us) hu λH e hu=>?_;rw[<-e];clear e;refine C1.fD 24 [.tmp 4,.tmp 5] Tryz.func66 λtm h0 h1=>?_;generalize C0:cy nm us n=r0;have fin:=finF E2 SlI H 4 5 r0;refine zG tyF λK hK=>?_;apply hK.out;refine R1.gen (λA1 H1=>Gr H H1/\H.nx<H1.nx/\H1.get H.nx=some (.arr [.o (.str nm),u] 51 0 0)/\dm A1 n (fb A1 H.nx (A1.nt=24/\A1.dfr=[]))) ⟨(Fr.refl _).new _,ba _,aC rfl,zL⟩ ?_;rintro A1 H1 ⟨g1,m1,rx,t1,t2,z0,A0⟩;clear h0 h1 tm hK K;have hu:=hu.gr g1;refine zG (qA tyF AE) λK hK=>?_;refine WE.con (xk H1 nm u us hu) λw H2 g2 hq=>?_;subst hq;obtain⟨rx,m1⟩:=bD g2 m1 rx;have hu:=hu.gr g2;have g2:=g1.gr g2;clear g1;have r2:nq [AC.i .i64 0] 2=[.i .i64 0,.i .i64 0]:=rfl;have E0:=@eR nm us;unfold cy at C0;generalize aP nm us=e0 at C0 E0;by_cases c0:0<=n
 case neg=>
  refine zS (qA tyF vm) ?_;refine WE.con (rY H2 false 8) λw H3 g3 hq=>?_;subst hq;obtain⟨rx,m1⟩:=bD g3 m1 rx;have hu:=hu.gr g3;have g3:=g2.gr g3;refine zS (qA tyF AG) ?_;refine WE.con (xu _ _ [e0,8] (Ht _ _) (by show 2<=_;omega)) λw H4 g4 hq=>?_;subst hq;have g4:Gr H3 H4:=((Fr.refl _).new _).gr g4;obtain⟨rx,m1⟩:=bD g4 m1 rx;have hu:=hu.gr g4;have g4:=g3.gr g4;by_cases Y0:e0=0
  case neg=>
   have ce:(eB [e0,8]==0)=false:=by rw[eB,ab Y0];exact aF Y0
   have cf:eB [e0,8]=e0:=by rw[eB,ab Y0]
   rw[cf]at ce;refine zK tyF ?_;exact fin (.o .nilS) (e0) _ _ qp qp qe (g4) (⟨by rw[<-C0,ad Y0];exact SlI.nil,by rw[<-C0,ad Y0],λ_ h=>by cases h⟩)
  rw[ab (λh=>h Y0)]at C0;have cf:eB [e0,8]=8:=by rw[eB,ad Y0];rfl
  replace Y0:=ay Y0;refine zK tyF ?_;exact fin (.o .nilS) (8) _ _ qp qp qe (g4) (⟨by rw[<-C0,ab (λh=>c0 h.1)];exact SlI.nil,by rw[<-C0,ab (λh=>c0 h.1)],λ_ h=>by cases h⟩)
 by_cases c1:n<=1099511627776
 case neg=>
  refine zS (qA tyF vm) ?_;refine WE.con (rY H2 false 8) λw H3 g3 hq=>?_;subst hq;obtain⟨rx,m1⟩:=bD g3 m1 rx;have hu:=hu.gr g3;have g3:=g2.gr g3;refine zS (qA tyF AG) ?_;refine WE.con (xu _ _ [e0,8] (Ht _ _) (by show 2<=_;omega)) λw H4 g4 hq=>?_;subst hq;have g4:Gr H3 H4:=((Fr.refl _).new _).gr g4;obtain⟨rx,m1⟩:=bD g4 m1 rx;have hu:=hu.gr g4;have g4:=g3.gr g4;by_cases Y0:e0=0
  case neg=>
   have ce:(eB [e0,8]==0)=false:=by rw[eB,ab Y0];exact aF Y0
   have cf:eB [e0,8]=e0:=by rw[eB,ab Y0]
   rw[cf]at ce;refine zK tyF ?_;exact fin (.o .nilS) (e0) _ _ qp qp qe (g4) (⟨by rw[<-C0,ad Y0];exact SlI.nil,by rw[<-C0,ad Y0],λ_ h=>by cases h⟩)
  rw[ab (λh=>h Y0)]at C0;have cf:eB [e0,8]=8:=by rw[eB,ad Y0];rfl
  replace Y0:=ay Y0;refine zK tyF ?_;exact fin (.o .nilS) (8) _ _ qp qp qe (g4) (⟨by rw[<-C0,ab (λh=>c1 h.2)];exact SlI.nil,by rw[<-C0,ab (λh=>c1 h.2)],λ_ h=>by cases h⟩)
 refine zS (qA tyF vm) ?_;refine WE.con (rY H2 true 8) λw H3 g3 hq=>?_;subst hq;obtain⟨rx,m1⟩:=bD g3 m1 rx;have hu:=hu.gr g3;have g3:=g2.gr g3;refine zS (qA tyF AG) ?_;refine WE.con (xu _ _ [e0,0] (Ht _ _) (by show 2<=_;omega)) λw H4 g4 hq=>?_;subst hq;have g4:Gr H3 H4:=((Fr.refl _).new _).gr g4;obtain⟨rx,m1⟩:=bD g4 m1 rx;have hu:=hu.gr g4;have g4:=g3.gr g4;by_cases Y0:e0=0
 case neg=>
  have ce:(eB [e0,0]==0)=false:=by rw[eB,ab Y0];exact aF Y0
  have cf:eB [e0,0]=e0:=by rw[eB,ab Y0]
  rw[cf]at ce;refine zK tyF ?_;exact fin (.o .nilS) (e0) _ _ qp qp qe (g4) (⟨by rw[<-C0,ad Y0];exact SlI.nil,by rw[<-C0,ad Y0],λ_ h=>by cases h⟩)
 rw[ab (λh=>h Y0)]at C0;have cf:eB [e0,0]=0:=by rw[eB,ad Y0];rfl
 obtain⟨_,_,hf⟩:=E0 Y0;have Y4:=(E0 Y0).1;replace Y0:=ay Y0;refine zK tyF ?_;refine zG (qA tyF TF) λK hK=>?_;refine WE.con (So H4 nm u us n hu aa c0 c1 hf) λw H5 g5⟨c,hq,hc,hfr⟩=>?_;subst hq;refine zK tyF ?_;exact fin (c) (0) _ _ qp qp qe (g4.gr g5) (⟨by rw[<-C0,ad ⟨c0,c1⟩];exact hc,by rw[<-C0,ad ⟨c0,c1⟩],λid h=>aS g4.nx (hfr id h)⟩)
def tL:List Int->Int->List Int
 |[],_=>[]
 |w::l,n=>(l.head?.elim n λy=>n%y)/w::tL l n
def Ll:∀(vs:List Int)(n:Int),(tL vs n).length=vs.length
 |[],_=>rfl
 |_::l,n=>by rw[tL,List.length_cons,Ll l,List.length_cons]
def kx{v:Int}{x:Pr}{l:List Pr}{vs:List Int}(h:cR v (x::l)=some vs):∃ws,vs=v*x.2::ws/\cR (v*x.2) l=some ws:=by
 rw[cR]at h;by_cases hb:1099511627776<v*x.2
 ·rw[ad hb]at h;cases h
 rw[ab hb]at h;cases hw:cR (v*x.2) l with
 |none=>rw[hw]at h;cases h
 |some ws=>rw[hw]at h;cases h;exact⟨ws,rfl,rfl⟩
def FN:∀{us:List Pr}{v:Int}{vs:List Int},cR v us=some vs->vs.length=us.length
 |[],_,_,h=>by cases h;rfl
 |x::l,v,vs,h=>by obtain⟨ws,rfl,hw⟩:=kx h;rw[List.length_cons,List.length_cons,FN hw]
def xO:∀{us:List Pr}{v:Int}{vs:List Int},cR v us=some vs->1<=v->(∀x∈us,1<=x.2/\x.2<=60)->∀w∈vs,1<=w/\v∣w
 |[],_,_,h,_,_,w,hw=>by cases h;cases hw
 |x::l,v,vs,h,hv,hf,w,hw=>by
  obtain⟨ws,rfl,hws⟩:=kx h;have h1:=(hf x (aT ..)).1;have h2:1<=v*x.2:=by have:=sC hv h1 aa aa;omega
  rcases List.mem_cons.1 hw with rfl|hw
  ·exact⟨h2,Int.dvd_mul_right _ _⟩
  obtain⟨a,b⟩:=xO hws h2 (λy hy=>hf y (aR _ hy)) w hw;exact⟨a,Int.dvd_trans (Int.dvd_mul_right _ _) b⟩
def FM:∀{us:List Pr}{v:Int}{vs:List Int},cR v us=some vs->1<=v->(∀x∈us,1<=x.2/\x.2<=60)->∀i a b,vs[i]?=some a->vs[i+1]?=some b->a∣b
 |[],_,_,h,_,_,i,a,b,ha,_=>by cases h;simp at ha
 |x::l,v,vs,h,hv,hf,i,a,b,ha,hb=>by
  obtain⟨ws,rfl,hws⟩:=kx h;have h1:=(hf x (aT ..)).1;have h2:1<=v*x.2:=by have:=sC hv h1 aa aa;omega
  have B9:∀y∈l,1<=y.2/\y.2<=60:=λy hy=>hf y (aR _ hy);rw[List.getElem?_cons_succ]at hb;cases i with
  |zero=>
   rw[List.getElem?_cons_zero]at ha;cases ha
   exact(xO hws h2 B9 b (gN hb)).2
  |succ i=>rw[List.getElem?_cons_succ]at ha;exact FM hws h2 B9 i a b ha hb
def YT(n a b:Int)(hn:0<=n)(ha:1<=a)(hb:1<=b):n%(a*b)/a=n/a%b:=by obtain⟨m,rfl⟩:=jL hn;obtain⟨x,rfl⟩:=jL (show 0<=a by omega);obtain⟨y,rfl⟩:=jL (show 0<=b by omega);have:=Nat.mod_mul_right_div_self m x y;exact_mod_cast this
def Ua(n a b:Int)(hn:0<=n)(ha:1<=a)(hb:1<=b):n/a/b=n/(a*b):=by obtain⟨m,rfl⟩:=jL hn;obtain⟨x,rfl⟩:=jL (show 0<=a by omega);obtain⟨y,rfl⟩:=jL (show 0<=b by omega);have:=Nat.div_div_eq_div_mul m x y;exact_mod_cast this
def Cz:∀(l:List Pr)(x:Pr)(v:Int)(vs:List Int)(n:Int),cR v (x::l)=some vs->0<=n->1<=v->(∀y∈x::l,1<=y.2/\y.2<=60)->tL vs n=az (x::l) (n/(v*x.2))
 |[],x,v,vs,n,h,_,_,_=>by
  obtain⟨ws,rfl,hw⟩:=kx h;cases hw
  rfl
 |y::l,x,v,vs,n,h,hn,hv,hf=>by
  obtain⟨ws,rfl,hw⟩:=kx h;have h1:=(hf x (aT ..)).1;have hy:=(hf y (aR _ (aT ..))).1;have h2:1<=v*x.2:=by have:=sC hv h1 aa aa;omega
  have ih:=Cz l y (v*x.2) ws n hw hn h2 λz hz=>hf z (aR _ hz);obtain⟨zs,rfl,_⟩:=kx hw;rw[tL,az,ih,List.head?_cons,tz,YT n _ _ hn h2 hy,Ua n _ _ hn h2 hy]
def PU{α:Type}(z a:α)(l:List α):∀i:Nat,(List.replicate (i+1) z++l).set i a=List.replicate i z++a::l
 |0=>rfl
 |i+1=>by rw[List.replicate_succ,Ag,List.set_cons_succ,PU z a l i,List.replicate_succ,Ag]
def eT{nm:List UInt8}{us:List Pr}(h:aP nm us=0):∃x l,us=x::l/\x.2=1:=by
 unfold aP at h;cases hl:iP nm us with
 |false=>rw[hl,ab zA8]at h;cases h
 |true=>
  unfold iP at hl;simp only[aV]at hl;obtain⟨⟨⟨⟨_,h1⟩,_⟩,_⟩,h2⟩:=hl;cases us with
  |nil=>simp at h1
  |cons x l=>
   refine⟨x,l,rfl,?_⟩;have:=List.all_eq_true.1 h2 0 (List.mem_range.2 (uN _));unfold okU at this;simp only[aV]at this;have h3:=this.2;simp at h3
   exact h3
def uH(H:Hp)(nm:List UInt8)(u:AC)(us:List Pr)(n:Int)(hu:SlP H u us):
  Con E2 130 [.agg [.o (.str nm),u],.one (.i .i64 n)] H (λ_=>False) λr H'=>∃c,r=.tup [(false,[c]),(false,[.i .i64 (cy nm us n).2])]/\SlI H' c (cy nm us n).1:=by
 refine Con.lT (λH=>SlP H u us) hu λH hu=>?_;refine C1.fD 53 [.tmp 4,.tmp 5] Tryz.func130 λtm h0 h1=>?_;generalize C0:cy nm us n=r0;have fin:=finS E2 SlI H 4 5 r0;refine zG tyF λK hK=>?_;apply hK.out;refine R1.gen (λA1 H1=>Gr H H1/\H.nx<H1.nx/\H1.get H.nx=some (.arr [.o (.str nm),u] 51 0 0)/\dm A1 n (fb A1 H.nx (A1.nt=53/\A1.dfr=[]))) ⟨(Fr.refl _).new _,ba _,aC rfl,zL⟩ ?_;rintro A1 H1 ⟨g1,m1,rx,t1,t2,z0,A0⟩;clear h0 h1 tm hK K;have hu:=hu.gr g1;refine zG (qA tyF ye) λK hK=>?_;refine WE.con (wE H1 nm u us hu) λw H2 g2 hq=>?_;subst hq;obtain⟨rx,m1⟩:=bD g2 m1 rx;have hu:=hu.gr g2;have g2:=g1.gr g2;clear g1;have E0:=@eR nm us;have B4:=@eT nm us;unfold cy at C0;generalize aP nm us=e0 at C0 E0 B4;by_cases Y0:e0=0
 case neg=>have ce:(e0==0)=false:=aF Y0;refine zK tyF ?_;exact fin (.o .nilS) (e0) _ _ qp qp qe (g2) (⟨by rw[<-C0,ad Y0];exact SlI.nil,by rw[<-C0,ad Y0]⟩)
 rw[ab (λh=>h Y0)]at C0;obtain⟨Y4,B8,hf⟩:=E0 Y0;obtain⟨x0,us',J',L4⟩:=B4 Y0;clear E0 B4;have ce:(e0==0)=true:=by rw[Y0];rfl
 replace Y0:=ay Y0;by_cases c0:n<0
 ·refine zK tyF ?_;exact fin (.o .nilS) (8) _ _ qp qp qe (g2) (⟨by rw[<-C0,ab (λh=>absurd h.1 aa)];exact SlI.nil,by rw[<-C0,ab (λh=>absurd h.1 aa)]⟩)
 by_cases c1:1099511627776<n
 ·refine zK tyF ?_;exact fin (.o .nilS) (8) _ _ qp qp qe (g2) (⟨by rw[<-C0,ab (λh=>absurd h.2 aa)];exact SlI.nil,by rw[<-C0,ab (λh=>absurd h.2 aa)]⟩)
 rw[ad ⟨aa,aa⟩]at C0;refine zK tyF ?_;refine zG (qA tyF DB) λK hK=>?_;refine WE.con (uL H2 nm u us hu aa hf) λw H3 g3⟨c,hq,hc⟩=>?_;subst hq;obtain⟨vs,Q3⟩:∃vs,cR 1 us=some vs:=⟨_,Aa 1 us B8⟩;rw[Q3,Ah]at hc;have Z1:vs.length<=12:=by rw[FN Q3];exact Y4
 have hvp:=λw hw=>(xO Q3 aa hf w hw).1;have hvd:=FM Q3 aa hf;have htop:tL vs n=az us n:=by have:=Cz us' x0 1 vs n (by rw[<-J'];exact Q3) aa aa (by rw[<-J'];exact hf);rw[this,<-J',L4,lG,Int.ediv_one]
 rw[<-htop]at C0;have hvs1:(cR 1 us).isSome=true:=by rw[Q3];rfl
 have g3:=g2.gr g3;clear g2 B8 J' htop Q3;obtain⟨z,hz,z9⟩:∃z,aW prog 3=some z/\(ofValue z).cells=[.i .i64 0]:=⟨.int .i64 0,CI,rfl⟩;have mk:∀H,dY prog H 27 (.one (.i .i64 (vs.length:Int))) (.one (.i .i64 (vs.length:Int)))=.val (.one (.o (.sl H.nx 0 0 vs.length 1))) (H.new (.arr ((List.replicate vs.length (0:Int)).map (AC.i .i64)) 3 0 0)):=λH=>by rw[pE dp mB hz (by rw[z9];rfl) aa,z9,wF,List.map_replicate]
 clear hz z9;have l1:=hc.len;have l2:=hc.lt;have S1:∀k∈(AV.one c).ids,k<H3.nx:=hc.lt;refine zK tyF ?_;refine R1.gen (λA4 H4=>Gr H H4/\SlI H4 c vs/\H3.nx<H4.nx/\H4.get H3.nx=some (.arr ((List.replicate vs.length (0:Int)++tL (vs.drop vs.length) n).map (AC.i .i64)) 3 0 0)/\dm A4 n (nu A4 7 9 (c) (.o (.sl H3.nx 0 0 vs.length 1)) 53 []))
  ⟨g3.new _,hc.gr ((Fr.refl _).new _),ba _,by rw[aC rfl,ct,tL,List.append_nil],zL⟩ ?_
 clear t1 t2 z0 A0 A1 mk l1 l2 hK K rx m1 hvs1;rintro A H4 ⟨g4,hc,m2,rs,t1,t7,t9,z0,A0⟩;obtain⟨M,hM⟩:=dI H3.nx;rw[<-hM]at m2 rs t9 S1;have hMH:H.nx<=M:=by have:=g3.nx;omega
 clear hM;have hw0:=cB ((vs.length:Int)-1);refine zW (zDd tyF hc.len hc.lt) ?_;refine R1.dL λK k1 k2 k3 k4=>?_;refine R1.loop (λm A H5=>∃i:Nat,m=i/\i<=vs.length/\Gr H H5/\Fr (λk=>k=M) H4 H5/\H5.get M=some (.arr ((List.replicate i (0:Int)++tL (vs.drop i) n).map (AC.i .i64)) 3 0 0)/\dm A ((vs[i]?).elim n λw=>n%w) (eQ A.tm 7 9 (c) (.o (.sl M 0 0 vs.length 1)) (lI A ((i:Int)-1) (A.nt=53/\A.dfr=[])))) ?_ vs.length
  ⟨vs.length,rfl,ai _,g4,Fr.refl _,rs,by rw[iY (ai _),HM];exact zL⟩
 clear t1 t7 t9 z0 A0 A rs hw0 k3;rintro m A H5 ⟨i,hmi,hi,g5,f5,rs,t1,t7,t9,t10,z0,A0⟩;have hcn:∀k∈(AV.one c).ids,¬k=M:=λk hk e=>by have:=S1 k hk;omega
 have hc5:SlI H5 c vs:=SlC.fr hc f5 hcn;have m5:M<H5.nx:=ax m2 f5.nx;refine zW tyF ?_;refine zI tyF (λhq=>?_) (λhq=>?_)
 ·obtain⟨j,rfl⟩:∃j,i=j+1:=⟨i-1,aa⟩;have B0:j<vs.length:=aa;have ew:=aA B0;have hdj:=List.drop_eq_getElem_cons B0;have hwp:=hvp vs[j] (bW B0);have hdv:=λb=>hvd j vs[j] b ew;generalize vs[j]=w at ew hdj hwp hdv;generalize hk:(vs[j+1]?.elim n λw=>n%w)=k at t1;have hkw:k%w=(vs[j]?).elim n λw=>n%w:=by
   rw[ew,tz,<-hk];cases hb:vs[j+1]? with
   |none=>rfl
   |some b=>rw[tz];exact Int.emod_emod_of_dvd n (hdv b hb)
  have htv:tL (vs.drop j) n=k/w::tL (vs.drop (j+1)) n:=by rw[hdj,tL,<-hk,List.head?_drop]
  have M4:0<=k:=by
   rw[<-hk];cases hb:vs[j+1]? with
   |none=>exact(by omega:0<=n)
   |some b=>exact Int.emod_nonneg _ (by have:=hvp b (gN hb);omega)
  have X9:k<=1099511627776:=by
   rw[<-hk];cases hb:vs[j+1]? with
   |none=>exact(by omega:n<=1099511627776)
   |some b=>
    have h1:=Int.emod_nonneg n (show b≠0 by have:=hvp b (gN hb);omega);have h2:=Int.emod_lt_of_pos n (show 0<b by have:=hvp b (gN hb);omega);have h3:n%b<=n:=by obtain⟨x,rfl⟩:=jL (show 0<=n by omega);obtain⟨y,rfl⟩:=jL (show 0<=b by omega);have:=Nat.mod_le x y;exact_mod_cast this
    show n%b<=_;omega
  clear hk hdj hdv;obtain⟨id,g,off,cells,rfl,hid,W0,J0⟩:=hc5.open aa;have Q0:id≠M:=hcn id (List.mem_singleton.2 rfl);obtain⟨y1,y2⟩:=J0 j w ew;rw[cr]at y1 y2;have hgm:∀X,rowOf ((H5.mod M X).get id) g=some cells:=λX=>by rw[aB Q0];exact W0
  have hw0:w≠0:=aa;have e1:k.tmod w=k%w:=Int.tmod_eq_emod_of_nonneg M4;have e3:k/w<=k:=Int.ediv_le_self _ M4;have e4:0<=k/w:=Int.ediv_nonneg M4 aa;have e2:IntKind.i64.wrap (k.tdiv w)=k/w:=by rw[Int.tdiv_eq_ediv_of_nonneg M4];exact gE aa aa
  have ej:(((j+1:Nat):Int)-1)=(j:Int):=aa;have ej2:=cB ((j:Int)-1);rw[ej]at t10;have hle:j+1<=((List.replicate (j+1) (0:Int)++tL (vs.drop (j+1)) n).map (AC.i .i64)).length:=by rw[cP,aI,uP];omega
  have S4:List.take j ((List.replicate (j+1) (0:Int)++tL (vs.drop (j+1)) n).map (AC.i .i64))++AC.i .i64 (k/w)::List.drop (j+1) ((List.replicate (j+1) (0:Int)++tL (vs.drop (j+1)) n).map (AC.i .i64))=(List.replicate j (0:Int)++tL (vs.drop j) n).map (AC.i .i64):=by rw[setRow (AC.i .i64) _ _ (k/w) (by rw[aI,uP];omega),PU,<-htv]
  clear htv J0 hq;refine zW tyF ?_;refine R1.dL λK2 q1 q2 q3 q4=>?_;refine zW (zDi tyF (ixC B0) S4 cr hle arQ (acp hw0) (acq hw0)) ?_;apply q1.out;refine zW tyF ?_;exact⟨j,aa,j,rfl,aa,g5.mod _ (.inl hMH),f5.mod _ (.inr rfl),aq rfl,zL⟩
 have U0:i=0:=aa;refine zW tyF ?_;apply k2.out;refine zW tyF ?_;rw[U0,List.drop_zero,List.replicate_zero,iz]at rs;have O6:=Hs rs (ai _) m5;rw[Ll]at O6;exact fin (.o (.sl M 0 0 vs.length 1)) (0) _ _ qp qp qe (g5) (⟨by rw[<-C0];exact O6,by rw[<-C0]⟩)
def evH:List Pr->List Int->Int
 |_::y::l,d::ds=>d+y.2*evH (y::l) ds
 |_,d::_=>d
 |_,[]=>0
def vW:List Pr->Nat->Int
 |_,0=>1
 |_::y::l,i+1=>y.2*vW (y::l) i
 |_,_+1=>0
def tY(us:List Pr)(ds:List Int):Prop:=ds.length=us.length/\∀i,i<us.length->0<=ds.getD i 0/\(i+1<us.length->ds.getD i 0<(us.getD (i+1) ([],0)).2)
def tY.tl{x y:Pr}{l:List Pr}{d:Int}{ds:List Int}(h:tY (x::y::l) (d::ds)):0<=d/\d<y.2/\tY (y::l) ds:=by obtain⟨h1,h2⟩:=h;have h0:=h2 0 (by simp);refine⟨h0.1,h0.2 (by simp),by simpa using h1,λi hi=>?_⟩;have:=h2 (i+1) (by simp at hi |-;omega);refine⟨this.1,λh=>this.2 (by simp at h |-;omega)⟩
def tY.cons{x y:Pr}{l:List Pr}{d:Int}{ds:List Int}(h0:0<=d)(h1:d<y.2)(h:tY (y::l) ds):tY (x::y::l) (d::ds):=by
 obtain⟨h2,h3⟩:=h;refine⟨by simpa using h2,λi hi=>?_⟩;cases i with
 |zero=>exact⟨h0,λ_=>h1⟩
 |succ i=>have:=h3 i (by simp at hi |-;omega);exact⟨this.1,λh=>this.2 (by simp at h |-;omega)⟩
def Ct:∀(us:List Pr)(ds:List Int),tY us ds->az us (evH us ds)=ds
 |[],[],_=>rfl
 |[],_::_,h=>by cases h.1
 |[_],[],h=>by cases h.1
 |[_],[_],_=>rfl
 |[_],_::_::_,h=>by cases h.1
 |_::_::_,[],h=>by cases h.1
 |x::y::l,d::ds,h=>by obtain⟨h0,h1,h2⟩:=h.tl;have hy:y.2≠0:=aa;rw[evH,az,Int.add_mul_emod_self_left,Int.emod_eq_of_lt h0 h1,Int.add_mul_ediv_left _ _ hy,Int.ediv_eq_zero_of_lt h0 h1,Int.zero_add,Ct (y::l) ds h2]
def ru:∀(us:List Pr)(n:Int),us≠[]->evH us (az us n)=n
 |[],_,h=>absurd rfl h
 |[_],_,_=>rfl
 |x::y::l,n,_=>by rw[az,evH,ru (y::l) _ (by simp)];have:=Int.emod_add_mul_ediv n y.2;omega
def oJ:∀(us:List Pr)(n:Int),0<=n->(∀x∈us,1<=x.2)->tY us (az us n)
 |[],_,_,_=>⟨rfl,λi hi=>absurd hi (Nat.not_lt_zero i)⟩
 |[x],n,h,_=>⟨rfl,λi hi=>by
  have:i=0:=by simp at hi;omega
  subst this;exact⟨h,λh=>absurd h (by simp)⟩⟩
 |x::y::l,n,h,hf=>by have hy:=hf y (by simp);rw[az];exact tY.cons (Int.emod_nonneg _ aa) (Int.emod_lt_of_pos _ aa) (oJ (y::l) _ (Int.ediv_nonneg h aa) λz hz=>hf z (aR _ hz))
def IA:ao prog 40=true:=ae
def Dz:ao prog 65=true:=ae
def zj:ao prog 68=true:=ae
def vo:ao prog 69=true:=ae
abbrev Sp:=Int×List UInt8×Int
def spC(x:Sp):List AC:=[.i .i64 x.1,.o (.str x.2.1),.i .i64 x.2.2]
def okN(m:Int):Bool:=decide (1<=m)&&decide (m<=1099511627776)
def nP(us:List Pr)(i:Nat)(k:Int):Bool:=((i+1:Nat):Int)==(us.length:Int)||decide (k<(us.getD (i+1) ([],0)).2)
def one(b:Bool)(x:Sp):List Sp:=if(b&&okN x.2.2)=true then[x]else[]
def fz(us:List Pr)(cs vs:List Int)(n:Int)(i:Nat):List Sp:=
 one (decide (0<cs.getD i 0)) (1,(us.getD i ([],0)).1,n-vs.getD i 0)++one (nP us i (cs.getD i 0+1)) (2,(us.getD i ([],0)).1,n+vs.getD i 0) ++
 (if i+1=us.length then[]else
  one (cs.getD i 0==0&&decide (0<cs.getD (i+1) 0)&&nP us i (cs.getD (i+1) 0)) (3,(us.getD i ([],0)).1,n-cs.getD (i+1) 0*vs.getD (i+1) 0+cs.getD (i+1) 0*vs.getD i 0) ++
  one (cs.getD (i+1) 0==0&&decide (0<cs.getD i 0)&&nP us (i+1) (cs.getD i 0)) (4,(us.getD (i+1) ([],0)).1,n-cs.getD i 0*vs.getD i 0+cs.getD i 0*vs.getD (i+1) 0))
def slA(S:List Sp)(j:Nat):List AV:=match S[j]? with|some x=>[.agg (spC x)]|none=>[.any]
def PV(S:List Sp)(j:Nat):(slA S j).length=1:=by unfold slA;split<;>rfl
def Nh{S:List Sp}{j:Nat}{x:Sp}(h:S[j]?=some x):slA S j=[.agg (spC x)]:=by unfold slA;rw[h]
def wG(H:Hp)(us:List Pr)(cs:List Int)(nm:List UInt8)(u c:AC)(rc il:Nat)(i:Nat)(k:Int)(hu:SlP H u us)(hc:SlI H c cs)(hl:cs.length=us.length)(hi:i<us.length)(hL:us.length<=1000000)(hrc:rc<H.nx)(U3:il<H.nx)(hgc:H.get rc=some (.arr [c] 27 0 0))(S':H.get il=some (.arr [.o (.str nm),u] 51 0 0)):
  Con E2 68 [.one (.i .i64 (i:Int)),.one (.i .i64 k),.one (.o (.ptr rc 0 0 1)),.one (.o (.ptr il 0 0 2))] H (λ_=>False) λr _=>r=.one (.b (nP us i k)):=by
 refine Con.hda6 (λH=>SlP H u us) hu (λH=>SlI H c cs) hc (λH=>rc<Hp.nx H) hrc (λH=>il<Hp.nx H) U3 (λH=>Hp.get H rc=some (.arr [c] 27 0 0)) hgc (λH=>Hp.get H il=some (.arr [.o (.str nm),u] 51 0 0)) S' λH hu hc hrc U3 hgc S'=>?_;refine C1.QJ 23 [.tmp 6] Tryz.func68 λtm h0 h1 h2 h3=>?_;have fin:=CW E2 H 6 (nP us i k);generalize C0:nP us i k=r0 at fin;have l1:=hc.len;have l2:=hc.lt;rw[hl]at l1;replace hl:=ay hl;have X1:=bB i;unfold nP at C0;cases S2:(((i+1:Nat):Int)==(us.length:Int))with
 |true=>refine zW tyF ?_;exact fin (true) _ _ qp qe (Fr.refl _) ((by rw[S2,Bool.true_or]at C0;exact C0))
 |false=>
  have B0:i+1<us.length:=by have:=ne_of_beq_false S2;omega
  obtain⟨id,g,off,cells,rfl,hid,W0,J0⟩:=hu.open aa;have ey:us[i+1]?=some (us.getD (i+1) ([],0)):=by rw[bt,aA B0];rfl
  have hy:=J0 _ _ ey;have y1:=hy.snd;have y2:=hy.le2;clear J0;refine zW (qA tyF (ixC B0)) ?_;exact fin ((decide (k<(us.getD (i+1) ([],0)).2))) _ _ qp qe (Fr.refl _) ((by rw[S2,Bool.false_or]at C0;exact C0))
def sb{σ:Type}{L:Nat}{S:List Sp}{Dn:Nat->Prop}(B:YB E2 L S.length (slA S) Dn σ)(s:σ)(j:Nat)(H:Hp)(us:List Pr)(nm:List UInt8)(u:AC)(rb il:Nat)(kd:Int)(i:Nat)(m:Int)(hj:B.J j s H)(hu:SlP H u us)(hi:i<us.length)(hL:us.length<=1000000)(hrb:rb<H.nx)(U3:il<H.nx)
  (hgb:H.get rb=some (.arr [.o (.yl L)] 153 0 0)) (S':H.get il=some (.arr [.o (.str nm),u] 51 0 0)) (hS:okN m=true->S[j]?=some (kd,(us.getD i ([],0)).1,m)):
  Con E2 69 [.one (.i .i64 kd),.one (.i .i64 (i:Int)),.one (.i .i64 m),.one (.o (.ptr rb 0 0 1)),.one (.o (.ptr il 0 0 2))] H (B.fp s) λr H'=>∃b s',r=.one (.b b)/\(b=true->B.J (if okN m=true then j+1 else j) s' H')/\(b=false->B.F s' H')/\∀k,B.fp s' k->B.fp s k\/H.nx<=k:=by
 refine Con.of rfl λlg=>?_;have hj:B.J j s ⟨H.t,H.nx,lg⟩:=B.hJ hj (ai _) λ_ _=>rfl;have hu:SlP ⟨H.t,H.nx,lg⟩ u us:=hu;have hrb:rb<(⟨H.t,H.nx,lg⟩:Hp).nx:=hrb;have U3:il<(⟨H.t,H.nx,lg⟩:Hp).nx:=U3;have hgb:(⟨H.t,H.nx,lg⟩:Hp).get rb=some (.arr [.o (.yl L)] 153 0 0):=hgb;have S':(⟨H.t,H.nx,lg⟩:Hp).get il=some (.arr [.o (.str nm),u] 51 0 0):=S';have e0:H.nx=(⟨H.t,H.nx,lg⟩:Hp).nx:=rfl;rw[e0];clear e0;generalize(⟨H.t,H.nx,lg⟩:Hp)=H at hj hu hrb U3 hgb S' |-
 generalize y7:(if okN m=true then j+1 else j)=j';refine C1.QK 28 [.tmp 8] Tryz.func69 λtm h0 h1 h2 h3 h4=>?_;have fin:∀(b:Bool)(A:ag)(H3:Hp)(s':σ),slot A.tm 8=.one (.b b)->A.dfr=[]->Fr (B.fp s) H H3->(b=true->B.J j' s' H3)->(b=false->B.F s' H3)->(∀k,B.fp s' k->B.fp s k\/H.nx<=k) ->
   ∃w H4,aK E2 [.tmp 8] (.ret,A,H3)=.ok [(w,H4)]/\Fr (B.fp s) H H4/\∀lg',∃b s',w=.one (.b b)/\(b=true->B.J j' s' ⟨H4.t,H4.nx,lg'⟩)/\(b=false->B.F s' ⟨H4.t,H4.nx,lg'⟩)/\∀k,B.fp s' k->B.fp s k\/H.nx<=k:=λb A H3 s' h1 h2 h3 h4 h5 h6=>
  ⟨_,H3,aw (.b b) (.inr rfl) h2 h1,h3,λ_=>⟨b,s',rfl,λh=>B.hJ (h4 h) (ai _) λ_ _=>rfl,λh=>B.hF (h5 h) (ai _) λ_ _=>rfl,h6⟩⟩
 by_cases c0:m<1
 ·have hk:okN m=false:=by unfold okN;rw[bJ aa];rfl
  rw[hk,ab zA8]at y7;subst y7;refine zW tyF ?_;exact fin true _ _ s qp qe (Fr.refl _) (λ_=>hj) (λh=>by cases h) λ_ h=>.inl h
 by_cases c1:1099511627776<m
 ·have hk:okN m=false:=by unfold okN;rw[bJ (show¬m<=1099511627776 by omega),Bool.and_false]
  rw[hk,ab zA8]at y7;subst y7;refine zW tyF ?_;exact fin true _ _ s qp qe (Fr.refl _) (λ_=>hj) (λh=>by cases h) λ_ h=>.inl h
 have hk:okN m=true:=by unfold okN;rw[bp aa,bp aa];rfl
 rw[hk,ad rfl]at y7;subst y7;have C9:=hS hk;have hjl:j<S.length:=(List.getElem?_eq_some_iff.1 C9).1;have hp:=B.pass j s H hjl hj;rw[Nh C9,spC]at hp;obtain⟨id,g,off,cells,rfl,hid,W0,J0⟩:=hu.open aa;have ey:us[i]?=some (us.getD i ([],0)):=by rw[bt,aA hi];rfl
 have hy:=J0 _ _ ey;have y1:=hy.fst;have y2:=hy.le1;clear J0 hS C9 hk ey;generalize us.getD i ([],0)=y at y1 hp;refine zW tyF ?_;refine zG (qA tyF (ixC hi)) λK hK=>?_;refine WE.abY hp λv H4 hf4⟨b,s3,hv,N7,p_,X7⟩=>?_;subst hv;refine zK tyF ?_;exact fin b _ _ s3 qp qe hf4 N7 p_ X7
def drop_one{S R:List Sp}{j:Nat}{x:Sp}(h:S.drop j=one true x++R):(okN x.2.2=true->S[j]?=some x)/\S.drop (if okN x.2.2=true then j+1 else j)=R:=by
 unfold one at h;cases hk:okN x.2.2 with
 |true=>
  rw[hk,Bool.true_and,ad rfl]at h;have h0:(S.drop j)[0]?=some x:=by rw[h];rfl
  rw[iV]at h0;refine⟨λ_=>h0,?_⟩;rw[ad rfl,<-js,h];rfl
 |false=>rw[hk,Bool.true_and,ab zA8,iz]at h;exact⟨λh2=>absurd h2 zA8,(ab zA8).symm▸h⟩
def iG{S R:List Sp}{j:Nat}{x:Sp}(h:S.drop j=one false x++R):S.drop j=R:=by unfold one at h;rw[Bool.false_and,ab zA8,iz]at h;exact h
def gM(us:List Pr)(cs vs:List Int)(n:Int):List Sp:=(List.range us.length).flatMap (fz us cs vs n)
def YC(l:List Int)(i:Nat)(h:i<l.length):((l.map (AC.i .i64)).drop i).headD (.b false)=.i .i64 (l.getD i 0):=by rw[<-List.map_drop,bt,List.drop_eq_getElem_cons h,aA h];rfl
def eY(nm:List UInt8)(us:List Pr):List Int:=us.map λx=>(tM nm us x.1).1
def LH(us:List Pr)(cs vs:List Int):Prop:=∀i,i<us.length->(0<=cs.getD i 0/\cs.getD i 0<=1099511627776)/\(0<=vs.getD i 0/\vs.getD i 0<=1099511627776) /\
 (i+1<us.length->(0<=cs.getD (i+1) 0*vs.getD (i+1) 0/\cs.getD (i+1) 0*vs.getD (i+1) 0<=1099511627776)/\(0<=cs.getD (i+1) 0*vs.getD i 0/\cs.getD (i+1) 0*vs.getD i 0<=1125899906842624) /\
  (0<=cs.getD i 0*vs.getD i 0/\cs.getD i 0*vs.getD i 0<=1099511627776)/\(0<=cs.getD i 0*vs.getD (i+1) 0/\cs.getD i 0*vs.getD (i+1) 0<=1125899906842624))
def Fz(H:Hp)(il rn:Nat)(nm:List UInt8)(u:AC)(us:List Pr)(n:Int)(U3:il<H.nx)(S':H.get il=some (.arr [.o (.str nm),u] 51 0 0))(O8:rn<H.nx)(hgn:H.get rn=some (.arr [.i .i64 n] 3 0 0))(hu:SlP H u us)(L0:aP nm us=0)(J3:1<=n)(W3:n<=1099511627776)
  (cs vs:List Int) (M3:az us n=cs) (Q3:eY nm us=vs) (hSB:LH us cs vs) (S:List Sp) (hS:gM us cs vs n=S):
  ItC E2 65 [(il,0,0,2),(rn,0,0,1)] S.length (slA S) (λk=>k=il\/k=rn\/k∈(AV.one u).ids) H:=by
 intro σ L B s H1 S0 O5 hj;refine Con.of rfl λlg=>?_;have hj:B.J 0 s ⟨H1.t,H1.nx,lg⟩:=B.hJ hj (ai _) λ_ _=>rfl;have S0:H.nx<=(⟨H1.t,H1.nx,lg⟩:Hp).nx:=S0;have O5:∀k,k<H.nx->(⟨H1.t,H1.nx,lg⟩:Hp).get k=H.get k:=O5;have e0:H1.nx=(⟨H1.t,H1.nx,lg⟩:Hp).nx:=rfl;rw[e0];clear e0;generalize(⟨H1.t,H1.nx,lg⟩:Hp)=H1 at hj S0 O5 |-
 have hgl1:H1.get il=some (.arr [.o (.str nm),u] 51 0 0):=by rw[O5 _ U3];exact S'
 have hgn1:H1.get rn=some (.arr [.i .i64 n] 3 0 0):=by rw[O5 _ O8];exact hgn
 have hil1:il<H1.nx:=ax U3 S0;have hrn1:rn<H1.nx:=ax O8 S0;have J2:SlP H1 u us:=SlC.fI hu S0 O5;have hfpD:∀k,B.fp s k->k<H1.nx/\¬(k=il\/k=rn\/k∈(AV.one u).ids):=λk hk=>B.hl hj hk;clear S' hgn O5 hu U3 O8 S0;have hL:=(eR L0).1;have j8:cy nm us n=(cs,0):=by unfold cy;rw[ab (λh=>h L0),ad ⟨aa,W3⟩,M3]
 have S1:cs.length=us.length:=by rw[<-M3];exact eC us n
 have Z1:vs.length=us.length:=by rw[<-Q3];unfold eY;exact cP _
 refine C1.yV 180 [] Tryz.func65 λtm h0 h1 h2=>?_;refine zG tyF λK hK=>?_;apply hK.out;refine R1.gen (λA2 H2=>Gr H1 H2/\H1.nx<H2.nx/\H2.get H1.nx=some (.arr [.o (.yl L)] 153 0 0)/\eZ A2 il (ox A2 rn H1.nx (A2.nt=180/\A2.dfr=[]))) ⟨(Fr.refl _).new _,ba _,aC rfl,zL⟩ ?_;clear h0 h1 h2 tm hK K;rintro A2 H2 ⟨g2,mb,rb,t1,t2,t3,z0,A0⟩;obtain⟨qb,hqb⟩:=dI H1.nx;rw[<-hqb]at mb rb t3;replace hqb:=ay hqb;obtain⟨rl,ml⟩:=bD g2 hil1 hgl1;obtain⟨rn2,mn⟩:=bD g2 hrn1 hgn1;refine zG (qA tyF Tn) λK hK=>?_;refine WE.con (Nn H2 nm u us n (J2.gr g2)) λw H3 g3⟨c,hq,hc,hcf⟩=>?_;rw[j8]at hq hc;subst hq;obtain⟨rb,mb⟩:=bD g3 mb rb;obtain⟨rl,ml⟩:=bD g3 ml rl;obtain⟨rn2,mn⟩:=bD g3 mn rn2;have g3:=g2.gr g3;refine zS tyF ?_;apply hK.out;refine R1.gen (λA4 H4=>Gr H1 H4/\Gr H3 H4/\H3.nx<H4.nx/\H4.get H3.nx=some (.arr [c] 27 0 0)/\eZ A4 il (ox A4 rn qb (jM A4 H3.nx (A4.nt=180/\A4.dfr=[]))))
  ⟨(g3.new _).mod _ (.inl g3.nx),((Fr.refl _).new _).mod _ (.inl (ai _)),ba _,aq rfl,zL⟩ ?_
 clear t1 t2 t3 z0 A0 A2 hK K;rintro A H4 ⟨g4,g34,mc,rc,t1,t2,t3,t4,z0,A0⟩;obtain⟨rb,mb⟩:=bD g34 mb rb;obtain⟨rl,ml⟩:=bD g34 ml rl;obtain⟨rn2,mn⟩:=bD g34 mn rn2;have hqv1:qb<H4.nx/\H3.nx<H4.nx/\il<H4.nx/\rn<H4.nx/\H1.nx<=H4.nx:=⟨mb,mc,ml,mn,g4.nx⟩;have Y9:=hc.gr g34;have hqc:H1.nx<=H3.nx:=g3.nx;obtain⟨qc,hqc'⟩:∃q,q=H3.nx:=⟨_,rfl⟩;rw[<-hqc']at mc rc t4 hqc hqv1;have hcf1:∀k∈(AV.one c).ids,H1.nx<=k:=λk hk=>aS g2.nx (hcf k hk);clear hqc' g3 g34 hc hcf;obtain⟨z,hz,z9⟩:∃z,aW prog 3=some z/\(ofValue z).cells=[.i .i64 0]:=⟨.int .i64 0,CI,rfl⟩;have mk:∀H,dY prog H 27 (.one (.i .i64 (cs.length:Int))) (.one (.i .i64 (cs.length:Int)))=.val (.one (.o (.sl H.nx 0 0 cs.length 1))) (H.new (.arr ((List.replicate cs.length (0:Int)).map (AC.i .i64)) 3 0 0)):=λH=>by rw[pE dp mB hz (by rw[z9];rfl) aa,z9,wF,List.map_replicate]
 clear hz z9;have l1:=Y9.len;have l2:=Y9.lt;rw[S1]at l1 mk;replace S1:=ay S1;replace Z1:=ay Z1;replace M3:=ay M3;replace j8:=ay j8;replace Q3:=ay Q3;replace L0:=ay L0;replace hS:=ay hS;refine zG (qA tyF mk) λK hK=>?_;apply hK.out;refine R1.gen (λA5 H5=>Gr H1 H5/\Gr H4 H5/\H4.nx<H5.nx/\H5.get H4.nx=some (.arr ((List.replicate us.length (0:Int)).map (AC.i .i64)) 3 0 0)/\eZ A5 il (ox A5 rn qb (jM A5 qc (eO A5 6 (.o (.sl H4.nx 0 0 us.length 1)) 180 []))))
  ⟨g4.new _,(Fr.refl _).new _,ba _,aC rfl,zL⟩ ?_
 clear t1 t2 t3 t4 z0 A0 A hK K mk l1 l2;rintro A H5 ⟨g5,g45,mv,rv,t1,t2,t3,t4,t6,z0,A0⟩;obtain⟨rb,mb⟩:=bD g45 mb rb;obtain⟨rl,ml⟩:=bD g45 ml rl;obtain⟨rn2,mn⟩:=bD g45 mn rn2;obtain⟨rc,mc⟩:=bD g45 mc rc;have hc5:=Y9.gr g45;have hcv:∀k∈(AV.one c).ids,k<H4.nx:=Y9.lt;obtain⟨qv,hqv⟩:=dI H4.nx;rw[<-hqv]at mv rv t6 hcv hqv1;clear hqv g45 Y9 g4;have o6:=J2.gr g5;have l1:=o6.len;have l2:=o6.lt;refine zW tyF ?_;obtain⟨hqb1,hqc1,hqi1,hqn1,hq1⟩:=hqv1;have RF:∀H6,Fr (λk=>k=qv) H5 H6->(H6.get qb=some (.arr [.o (.yl L)] 153 0 0)/\qb<H6.nx)/\(H6.get il=some (.arr [.o (.str nm),u] 51 0 0)/\il<H6.nx)/\(H6.get rn=some (.arr [.i .i64 n] 3 0 0)/\rn<H6.nx)/\(H6.get qc=some (.arr [c] 27 0 0)/\qc<H6.nx)/\qv<H6.nx:=λH6 f=>
  ⟨⟨(f.get _ mb aa).trans rb,ax mb f.nx⟩,⟨(f.get _ ml aa).trans rl,ax ml f.nx⟩,⟨(f.get _ mn aa).trans rn2,ax mn f.nx⟩,⟨(f.get _ mc aa).trans rc,ax mc f.nx⟩,ax mv f.nx⟩
 have hcne:∀k∈(AV.one c).ids,¬k=qv:=λk hk e=>by have:=hcv k hk;omega
 refine R1.dL λK k1 k2 k3 k4=>?_;refine R1.loop (λm A H6=>∃i:Nat,m=us.length-i/\i<=us.length/\Gr H1 H6/\Fr (λk=>k=qv) H5 H6/\H6.get qv=some (.arr ((vs.take i++List.replicate (us.length-i) (0:Int)).map (AC.i .i64)) 3 0 0) /\
   slot A.tm 1=.one ((.o (.ptr il 0 0 2)))/\slot A.tm 2=.one ((.o (.ptr rn 0 0 1)))/\slot A.tm 3=.one ((.o (.ptr qb 0 0 1)))/\slot A.tm 4=.one ((.o (.ptr qc 0 0 1)))/\slot A.tm 6=.one ((.o (.sl qv 0 0 us.length 1)))/\slot A.tm 24=.one (u)/\slot A.tm 25=.one (.i .i64 (us.length:Int))/\slot A.tm 26=.one (.i .i64 (i:Int))/\A.nt=180/\A.dfr=[]) ?_ us.length
  ⟨0,rfl,Nat.zero_le _,g5,Fr.refl _,rv,zL⟩
 clear t1 t2 t3 t4 t6 z0 A0 A rb rl rn2 rc rv k3 l1 l2 o6;rintro m A H6 ⟨i,rfl,hi,g6,f6,rv,t1,t2,t3,t4,t6,t24,t25,t26,z0,A0⟩;refine zW tyF ?_;refine zI tyF (λhc=>?_) (λhc=>?_)
 ·have B0:i<us.length:=aa;have ex:=aA B0;have M0:=List.drop_eq_getElem_cons B0;have Y1:=cK B0;have D0:=bW B0;generalize us[i]=x at ex M0 Y1 D0;have X1:=bB i;obtain⟨id,g,off,cells,rfl,hid,W0,J0⟩:=(J2.gr g6).open aa;have hy:=J0 _ _ ex;have y1:=hy.all;have y2:=hy.le;have hvx:vs.take (i+1)=vs.take i++[(tM nm us x.1).1]:=by
   have e:vs[i]?=some (tM nm us x.1).1:=by rw[<-Q3.out];unfold eY;rw[pV,ex];rfl
   obtain⟨h1,h2⟩:=List.getElem?_eq_some_iff.1 e;rw[cK h1,h2]
  clear J0 hy M0 Y1;refine zW tyF ?_;refine R1.dL λK2 q1 q2 q3 q4=>?_;refine zG (zDd tyF (ixC B0) gS) λK3 F8=>?_;apply F8.out;refine R1.gen (λA7 H7=>Gr H1 H7/\Gr H6 H7/\H6.nx<H7.nx/\H7.get H6.nx=some (.arr [.o (.str x.1),.i .i64 x.2] 133 0 0)/\eZ A7 il (ox A7 rn qb (jM A7 qc (slot A7.tm 6=.one (.o (.sl qv 0 0 us.length 1))/\gU A7 i (xe A7 8 24 25 26 (.o (.ptr H6.nx 0 0 2)) (.o (.sl id g off us.length 2)) (.i .i64 (us.length:Int)) (.i .i64 (i:Int)) 180 [])))))
   ⟨(g6.new _).mod _ (.inl g6.nx),((Fr.refl _).new _).mod _ (.inl (ai _)),ba _,aq rfl,zL⟩ ?_
  clear t1 t2 t3 t4 t6 t24 t25 t26 z0 A0 A y1 y2 W0 hid F8 K3;rintro A H7 ⟨g7,g67,m8,r8,t1,t2,t3,t4,t6,t7,t8,t24,t25,t26,z0,A0⟩;have f7:Fr (λk=>k=qv) H5 H7:=f6.gr g67;have rv7:=(g67.get _ (RF H6 f6).2.2.2.2 aE).trans rv;refine zG (zDd tyF (RF H7 f7) TG) λK3 F8=>?_;refine WE.con (Sy H7 nm _ us x.1 (J2.gr g7)) λw H8 g8 hq=>?_;subst hq;have f8:Fr (λk=>k=qv) H5 H8:=f7.gr g8;have rv8:=(g8.get _ (RF H7 f7).2.2.2.2 aE).trans rv7;have g78:=g7.gr g8;clear rv rv7 r8 m8;have hlen:(vs.take i).length=i:=by have:=Z1.out;rw[dM];omega
  have hle:i+1<=((vs.take i++List.replicate (us.length-i) (0:Int)).map (AC.i .i64)).length:=by rw[cP,aI,uP,hlen];omega
  have S4:List.take i ((vs.take i++List.replicate (us.length-i) (0:Int)).map (AC.i .i64))++AC.i .i64 (tM nm us x.1).1::List.drop (i+1) ((vs.take i++List.replicate (us.length-i) (0:Int)).map (AC.i .i64))=(vs.take (i+1)++List.replicate (us.length-(i+1)) 0).map (AC.i .i64):=by rw[setRow (AC.i .i64) _ _ _ (by rw[aI,uP,hlen];omega)];have e:us.length-i=(us.length-(i+1))+1:=aa;rw[e];have e2:=WJ (vs.take i) 0 (tM nm us x.1).1 (us.length-(i+1));rw[hlen]at e2;rw[e2,hvx]
  replace hlen:=ay hlen;clear hvx;generalize(tM nm us x.1).1=vx at S4
  generalize(tM nm us x.1).2=ve
  refine zS (zDg tyF (RF H8 f8) (ixC B0) S4 cr hle) ?_;apply F8.out;apply q1.out;refine zW tyF ?_;exact⟨us.length-(i+1),aa,i+1,rfl,B0,g78.mod _ (.inl aa),f8.mod _ (.inr rfl),aq rfl,zL⟩
 have U0:i=us.length:=aa;refine zW tyF ?_;apply k2.out;clear k1 k2 k4;have hvl2:vs.take us.length=vs:=by rw[<-Z1.out,pZ]
 rw[U0,ga,List.replicate_zero,List.append_nil,hvl2]at rv;replace U0:=ay U0;clear t26 t24 t25 hvl2;have hc6:SlI H6 c cs:=SlC.fr hc5 f6 hcne;have l1:=hc6.len;have l2:=hc6.lt;rw[S1.out]at l1;refine zW (qA tyF (RF H6 f6)) ?_;have hlp:0<us.length:=by obtain⟨x0,l0,e0,_⟩:=eT L0.out;rw[e0];exact uN _
 obtain⟨idc,gc,offc,cellsc,hce,hidc,hgc,K8⟩:=hc6.open (by have:=S1.out;omega);rw[S1.out]at hce;subst hce;have ec:∀j,j<us.length->(cellsc.drop (offc+j)).headD (.b false)=.i .i64 (cs.getD j 0)/\offc+j+1<=cellsc.length:=λj hj=>by
  have e:cs[j]?=some (cs.getD j 0):=by have:=S1.out;rw[bt,aA aa];rfl
  have h:=K8 j _ e;rwa [cr]at h
 have evv:∀j,j<us.length->((vs.map (AC.i .i64)).drop j).headD (.b false)=.i .i64 (vs.getD j 0)/\j+1<=(vs.map (AC.i .i64)).length:=λj hj=>by have:=Z1.out;exact⟨YC vs j aa,by rw[cP];omega⟩
 have hnD:∀k,(H1.nx<=k\/(k=il\/k=rn\/k∈(AV.one u).ids))->¬B.fp s k:=λk h hf=>by
  have h2:=hfpD k hf;rcases h with h|h
  ·omega
  exact h2.2 h
 have hqbn:¬B.fp s qb:=hnD _ (.inl (by have:=hqb.out;omega));have hidf:¬B.fp s idc:=hnD _ (.inl (hcf1 idc (List.mem_singleton.2 rfl)));have U8:∀k∈(AV.one u).ids,¬B.fp s k:=λk hk=>hnD k (.inr (.inr (.inr hk)));have hcn:∀k∈(AV.one (.o (.sl idc gc offc us.length 1))).ids,¬B.fp s k:=λk hk=>by rw[List.mem_singleton.1 hk];exact hidf
 have I7:=J2.gr g6;have RG:∀H7,Fr (B.fp s) H6 H7->(H7.get qb=some (.arr [.o (.yl L)] 153 0 0)/\qb<H7.nx)/\(H7.get il=some (.arr [.o (.str nm),u] 51 0 0)/\il<H7.nx)/\(H7.get rn=some (.arr [.i .i64 n] 3 0 0)/\rn<H7.nx)/\(H7.get qc=some (.arr [.o (.sl idc gc offc us.length 1)] 27 0 0)/\qc<H7.nx)/\(H7.get qv=some (.arr (vs.map (AC.i .i64)) 3 0 0)/\qv<H7.nx)/\(rowOf (H7.get idc) gc=some cellsc/\idc<H7.nx):=λH7 f=>by obtain⟨⟨a1,a2⟩,⟨b1,b2⟩,⟨c1,c2⟩,⟨d1,d2⟩,e2⟩:=RF H6 f6;exact⟨⟨(f.get _ a2 hqbn).trans a1,ax a2 f.nx⟩,⟨(f.get _ b2 (hnD _ (.inr (.inl rfl)))).trans b1,ax b2 f.nx⟩,⟨(f.get _ c2 (hnD _ (.inr (.inr (.inl rfl))))).trans c1,ax c2 f.nx⟩,⟨(f.get _ d2 (hnD _ (.inl hqc))).trans d1,ax d2 f.nx⟩,⟨(f.get _ e2 (hnD _ (.inl hq1))).trans rv,ax e2 f.nx⟩,⟨by rw[f.get _ hidc hidf];exact hgc,ax hidc f.nx⟩⟩
 have hcS:∀H7,Fr (B.fp s) H6 H7->SlI H7 (.o (.sl idc gc offc us.length 1)) cs:=λH7 f=>SlC.fr hc6 f hcn;have huS:∀H7,Fr (B.fp s) H6 H7->SlP H7 u us:=λH7 f=>SlC.fr I7 f U8;have hj6:B.J 0 s H6:=B.hJ hj g6.nx λk hk=>g6.get k hk aE;have fin:∀(e:au),e=.normal\/e=.ret->∀s3 H3 A3,B.J S.length s3 H3\/B.F s3 H3->Fr (B.fp s) H6 H3->(∀k,B.fp s3 k->B.fp s k\/H6.nx<=k)->A3.dfr=[]->∃v H4,aK E2 [] (e,A3,H3)=.ok [(v,H4)]/\Fr (B.fp s) H1 H4/\∀lg',∃s',(B.J S.length s' ⟨H4.t,H4.nx,lg'⟩\/B.F s' ⟨H4.t,H4.nx,lg'⟩)/\∀k,B.fp s' k->B.fp s k\/H1.nx<=k:=λe he s3 H3 A3 hjf hf M7 hd=>
  ⟨_,H3,cS he hd,g6.none.then hf λk hk=>.inr hk,λlg'=>⟨s3,hjf.imp (λh=>B.hJ (H:=H3) h (ai _) λ_ _=>rfl) (λh=>B.hF (H:=H3) h (ai _) λ_ _=>rfl),λk hk=>(M7 k hk).imp id λh=>aS g6.nx h⟩⟩
 have hS0:S.drop 0=((List.range us.length).drop 0).flatMap (fz us cs vs n):=by rw[List.drop_zero,List.drop_zero];exact hS.out.symm
 replace hS0:=ay hS0;clear RF hcne hc6 hc5 I7 rv K8 hgc hj l1 l2 J2 g5 mb ml mn mc mv hcv hcf1 hlp;refine R1.mD λK k1 k2 k3 k4=>?_;refine R1.loop (λm A H7=>∃(i j:Nat)(s2:σ),m=us.length-i/\i<=us.length/\j<=S.length/\B.J j s2 H7/\Fr (B.fp s) H6 H7/\(∀k,B.fp s2 k->B.fp s k\/H6.nx<=k)/\Hd (S.drop j=((List.range us.length).drop i).flatMap (fz us cs vs n))/\CG A rn qc qv us.length qc il qb il us.length i (A.nt=180/\A.dfr=[])) ?_ us.length
  ⟨0,0,s,rfl,Nat.zero_le _,Nat.zero_le _,hj6,Fr.refl _,λ_ h=>.inl h,hS0,zL⟩
 clear t1 t2 t3 t4 t6 z0 A0 A hj6 hS0;rintro m A H7 ⟨i,j,s2,rfl,hi,hjS,hj7,f7,M7,C9,t2,t4,t6,t9,t10,t45,t46,z0,A0⟩;refine zW tyF ?_;refine zI tyF (λhc=>?_) (λhc=>?_)
 ·have B0:i<us.length:=aa;have X1:=bB i;have Q8:((List.range us.length).drop i).flatMap (fz us cs vs n)=fz us cs vs n i++((List.range us.length).drop (i+1)).flatMap (fz us cs vs n):=by rw[List.drop_eq_getElem_cons (by rw[wX];exact B0),List.getElem_range,List.flatMap_cons]
  replace C9:=C9.out;rw[Q8]at C9;obtain⟨⟨c0,c1⟩,⟨v0,v1⟩,hmore⟩:=hSB i B0;obtain⟨ec1,ec2⟩:=ec i B0;obtain⟨ev1,ev2⟩:=evv i B0;generalize hR:((List.range us.length).drop (i+1)).flatMap (fz us cs vs n)=R at C9;replace hR:=ay hR;clear Q8;have w1:=cB (n-vs.getD i 0);have w2:=cB (n+vs.getD i 0);have w3:=cB (cs.getD i 0+1);refine zW tyF ?_;refine R1.dL λK2 q1 q2 q3 q4=>?_;refine zW tyF ?_;have next:∀(s4:σ)(j4:Nat)(A8:ag)(H8:Hp),j4<=S.length->B.J j4 s4 H8->Fr (B.fp s) H6 H8->(∀k,B.fp s4 k->B.fp s k\/H6.nx<=k)->S.drop j4=R->CG A8 rn qc qv us.length qc il qb il us.length i (A8.nt=180/\A8.dfr=[])->K2 .normal A8 H8/\K2 (.exit 3) A8 H8:=by
   clear t2 t4 t6 t9 t10 t45 t46 z0 A0 A;rintro s4 j4 A H8 Z5 hj8 f8 D5 T5 ⟨t2,t4,t6,t9,t10,t45,t46,z0,A0⟩;replace T5:Hd (S.drop j4=((List.range us.length).drop (i+1)).flatMap (fz us cs vs n)):=T5.trans hR.out.symm;refine⟨q1.out _ _ ?_,q2.out _ _ ?_⟩
   ·refine zW tyF ?_;exact⟨us.length-(i+1),aa,i+1,j4,s4,rfl,B0,Z5,hj8,f8,D5,T5,zL⟩
   refine zW tyF ?_;exact⟨us.length-(i+1),aa,i+1,j4,s4,rfl,B0,Z5,hj8,f8,D5,T5,zL⟩
  have stop:∀(s4:σ)(A8:ag)(H8:Hp),B.F s4 H8->Fr (B.fp s) H6 H8->(∀k,B.fp s4 k->B.fp s k\/H6.nx<=k)->A8.dfr=[]->K2 .ret A8 H8:=λs4 A8 H8 h1 h2 h3 h4=>q4.out _ _ (k4.out _ _ (fin .ret (.inr rfl) s4 H8 A8 (.inr h1) h2 h3 h4));replace next:=ay next;replace stop:=ay stop;unfold fz at C9;rw[bL,bL]at C9;generalize hT:(if i+1=us.length then([]:List Sp)else _)++R=T at C9;repeat refine R1.aJ ?_
  refine R1.s_h ae λK3 F8=>?_;have rest:Hd (∀(s4:σ)(j4:Nat)(A8:ag)(H8:Hp),j4<=S.length->B.J j4 s4 H8->Fr (B.fp s) H6 H8->(∀k,B.fp s4 k->B.fp s k\/H6.nx<=k)->S.drop j4=T->(slot A8.tm 11=.one (.i .i64 (i:Int)))/\(slot A8.tm 87=.one (.b false))/\(CG A8 rn qc qv us.length qc il qb il us.length i (A8.nt=180/\A8.dfr=[]))->K3 A8 H8):=by
   clear t2 t4 t6 t9 t10 t45 t46 z0 A0 A C9;rintro s4 j4 A H8 Z5 hj8 f8 D5 T5 ⟨t11,t87,t2,t4,t6,t9,t10,t45,t46,z0,A0⟩;apply F8.out;by_cases I2:i+1=us.length
   ·have ce:(((i+1:Nat):Int)==(us.length:Int))=true:=by rw[I2];exact dk _
    rw[ad I2,iz]at hT;replace I2:=ay I2;refine zW (qA tyF (RG H8 f8)) ?_;exact(next.out s4 j4 _ _ Z5 hj8 f8 D5 (T5.trans hT.symm) zL).2
   have ce:(((i+1:Nat):Int)==(us.length:Int))=false:=aF aa;have R2:i+1<us.length:=aa;rw[ab I2,bL]at hT;rw[<-hT]at T5;clear hT;obtain⟨⟨p1,p2⟩,⟨p3,p4⟩,⟨p5,p6⟩,⟨p7,p8⟩⟩:=hmore R2;obtain⟨⟨c2,c3⟩,⟨v2,v3⟩,_⟩:=hSB (i+1) R2;obtain⟨ec3,ec4⟩:=ec (i+1) R2;obtain⟨ev3,ev4⟩:=evv (i+1) R2;have x1:=cB (cs.getD (i+1) 0*vs.getD (i+1) 0);have x2:=cB (cs.getD (i+1) 0*vs.getD i 0);have x3:=cB (n-cs.getD (i+1) 0*vs.getD (i+1) 0);have x4:=cB (n-cs.getD (i+1) 0*vs.getD (i+1) 0+cs.getD (i+1) 0*vs.getD i 0);have x5:=cB (cs.getD i 0*vs.getD i 0);have x6:=cB (cs.getD i 0*vs.getD (i+1) 0);have x7:=cB (n-cs.getD i 0*vs.getD i 0);have x8:=cB (n-cs.getD i 0*vs.getD i 0+cs.getD i 0*vs.getD (i+1) 0);refine zW (zDf tyF (RG H8 f8) (ixC B0) (ixC R2) cr) ?_;generalize hT2:one (cs.getD (i+1) 0==0&&decide (0<cs.getD i 0)&&nP us (i+1) (cs.getD i 0)) (4,(us.getD (i+1) ([],0)).1,n-cs.getD i 0*vs.getD i 0+cs.getD i 0*vs.getD (i+1) 0)++R=T2 at T5;repeat refine R1.aJ ?_
   refine R1.s_h ae λK3 F8=>?_;have rest:Hd (∀(s4:σ)(j4:Nat)(A8:ag)(H8:Hp),j4<=S.length->B.J j4 s4 H8->Fr (B.fp s) H6 H8->(∀k,B.fp s4 k->B.fp s k\/H6.nx<=k)->S.drop j4=T2->(slot A8.tm 134=.one (.b false))/\(CG A8 rn qc qv us.length qc il qb il us.length i (jt A8 i (A8.nt=180/\A8.dfr=[])))->K3 A8 H8):=by
    clear t2 t4 t6 t9 t10 t11 t45 t46 t87 z0 A0 T5 hj8 Z5 D5 f8 A H8 s4 j4;rintro s4 j4 A H8 Z5 hj8 f8 D5 T5 ⟨t134,t2,t4,t6,t9,t10,t45,t46,t11,z0,A0⟩;apply F8.out;refine zW (zDf tyF (RG H8 f8) (ixC B0) (ixC R2) cr) ?_;rw[<-hT2]at T5;repeat refine R1.aJ ?_
    refine R1.s_h ae λK3 F8=>?_;have rest:Hd (∀(s4:σ)(j4:Nat)(A8:ag)(H8:Hp),j4<=S.length->B.J j4 s4 H8->Fr (B.fp s) H6 H8->(∀k,B.fp s4 k->B.fp s k\/H6.nx<=k)->S.drop j4=R->(slot A8.tm 178=.one (.b false))/\(CG A8 rn qc qv us.length qc il qb il us.length i (jt A8 i (A8.nt=180/\A8.dfr=[])))->K3 A8 H8):=by clear t2 t4 t6 t9 t10 t11 t45 t46 t134 z0 A0 T5 hj8 Z5 D5 f8 A H8 s4 j4;rintro s4 j4 A H8 Z5 hj8 f8 D5 T5 ⟨t178,t2,t4,t6,t9,t10,t45,t46,t11,z0,A0⟩;apply F8.out;refine zW tyF ?_;exact(next.out s4 j4 _ _ Z5 hj8 f8 D5 T5 zL).1
    have bad:Hd (∀(s4:σ)(A8:ag)(H8:Hp),B.F s4 H8->Fr (B.fp s) H6 H8->(∀k,B.fp s4 k->B.fp s k\/H6.nx<=k)->eO A8 178 (.b true) 180 []->K3 A8 H8):=by clear t2 t4 t6 t9 t10 t11 t45 t46 z0 A0;rintro s4 A8 H8 h1 h2 h3 ⟨t178,z0,A0⟩;apply F8.out;refine zW tyF ?_;exact stop.out s4 _ _ h1 h2 h3 qe
    clear F8;by_cases hC1:cs.getD (i+1) 0=0
    case neg=>have eC1:(cs.getD (i+1) 0==0)=false:=aF hC1;rw[eC1,Bool.false_and,Bool.false_and]at T5;refine zS (zDf tyF (RG H8 f8) (ixC B0) (ixC R2) cr) ?_;exact rest.out s4 j4 _ _ Z5 hj8 f8 D5 (iG T5) ⟨zL,zL⟩
    have eC1:=beq_iff_eq.2 hC1;replace hC1:=ay hC1;rw[eC1,Bool.true_and]at T5;by_cases hC2:0<cs.getD i 0
    case neg=>rw[bJ hC2,Bool.false_and]at T5;refine zS (zDf tyF (RG H8 f8) (ixC B0) (ixC R2) cr) ?_;exact rest.out s4 j4 _ _ Z5 hj8 f8 D5 (iG T5) ⟨zL,zL⟩
    rw[bp hC2,Bool.true_and]at T5;refine zS (zDg zj tyF (RG H8 f8) (ixC B0) (ixC R2) cr) ?_;refine WE.con (wG H8 us cs nm u _ qc il (i+1) (cs.getD i 0) (huS H8 f8) (hcS H8 f8) S1.out R2 aa (RG H8 f8).2.2.2.1.2 (RG H8 f8).2.1.2 (RG H8 f8).2.2.2.1.1 (RG H8 f8).2.1.1) λw' Hr gr hq=>?_;subst hq;have fR:=f8.gr gr;have hjR:=B.hJ hj8 gr.nx λk hk=>gr.get k hk aE;cases hB:nP us (i+1) (cs.getD i 0)with
    |false=>rw[hB]at T5;refine zS (zDf tyF (RG Hr fR) (ixC B0) (ixC R2) cr) ?_;exact rest.out s4 j4 _ _ Z5 hjR fR D5 (iG T5) ⟨zL,zL⟩
    |true=>
     rw[hB]at T5;refine zS (zDg vo tyF (RG Hr fR) (ixC B0) (ixC R2) cr) ?_;obtain⟨C6,B3⟩:=drop_one T5;refine WE.con (sb B s4 j4 Hr us nm u qb il 4 (i+1) (n-cs.getD i 0*vs.getD i 0+cs.getD i 0*vs.getD (i+1) 0) hjR (huS Hr fR) R2 aa (RG Hr fR).1.2 (RG Hr fR).2.1.2 (RG Hr fR).1.1 (RG Hr fR).2.1.1 C6) λw' Hp0 fp0⟨b,s3,hq,N7,p_,X7⟩=>?_;subst hq;have fP:=fR.then fp0 λk hk=>(D5 k hk).symm;have E6:∀k,B.fp s3 k->B.fp s k\/H6.nx<=k:=λk hk=>(X7 k hk).elim (λh=>D5 k h) λh=>.inr (aS fR.nx h);have S6:(if okN (n-cs.getD i 0*vs.getD i 0+cs.getD i 0*vs.getD (i+1) 0)=true then j4+1 else j4)<=S.length:=by
      cases E0:okN (n-cs.getD i 0*vs.getD i 0+cs.getD i 0*vs.getD (i+1) 0)with
      |true=>have:=(List.getElem?_eq_some_iff.1 (C6 E0)).1;rw[ad rfl];exact this
      |false=>rw[ab zA8];exact Z5
     generalize(if okN (n-cs.getD i 0*vs.getD i 0+cs.getD i 0*vs.getD (i+1) 0)=true then j4+1 else j4)=jP at B3 N7 S6
     cases b with
     |false=>refine zS (tyF) ?_;exact bad.out s3 _ _ (p_ rfl) fP E6 ⟨zL,zL,zL⟩
     |true=>replace N7:=N7 rfl;clear p_ C6;refine zS (zDf tyF (RG Hp0 fP) (ixC B0) (ixC R2) cr) ?_;exact rest.out s3 jP _ _ S6 N7 fP E6 B3 ⟨zL,zL⟩
   have bad:Hd (∀(s4:σ)(A8:ag)(H8:Hp),B.F s4 H8->Fr (B.fp s) H6 H8->(∀k,B.fp s4 k->B.fp s k\/H6.nx<=k)->eO A8 134 (.b true) 180 []->K3 A8 H8):=by clear t2 t4 t6 t9 t10 t11 t45 t46 z0 A0;rintro s4 A8 H8 h1 h2 h3 ⟨t134,z0,A0⟩;apply F8.out;refine zW tyF ?_;exact stop.out s4 _ _ h1 h2 h3 qe
   clear F8;by_cases hC1:cs.getD i 0=0
   case neg=>have eC1:(cs.getD i 0==0)=false:=aF hC1;rw[eC1,Bool.false_and,Bool.false_and]at T5;refine zS (zDf tyF (RG H8 f8) (ixC B0) (ixC R2) cr) ?_;exact rest.out s4 j4 _ _ Z5 hj8 f8 D5 (iG T5) ⟨zL,zL⟩
   have eC1:=beq_iff_eq.2 hC1;replace hC1:=ay hC1;rw[eC1,Bool.true_and]at T5;by_cases hC2:0<cs.getD (i+1) 0
   case neg=>rw[bJ hC2,Bool.false_and]at T5;refine zS (zDf tyF (RG H8 f8) (ixC B0) (ixC R2) cr) ?_;exact rest.out s4 j4 _ _ Z5 hj8 f8 D5 (iG T5) ⟨zL,zL⟩
   rw[bp hC2,Bool.true_and]at T5;refine zS (zDg zj tyF (RG H8 f8) (ixC B0) (ixC R2) cr) ?_;refine WE.con (wG H8 us cs nm u _ qc il i (cs.getD (i+1) 0) (huS H8 f8) (hcS H8 f8) S1.out B0 aa (RG H8 f8).2.2.2.1.2 (RG H8 f8).2.1.2 (RG H8 f8).2.2.2.1.1 (RG H8 f8).2.1.1) λw' Hr gr hq=>?_;subst hq;have fR:=f8.gr gr;have hjR:=B.hJ hj8 gr.nx λk hk=>gr.get k hk aE;cases hB:nP us i (cs.getD (i+1) 0)with
   |false=>rw[hB]at T5;refine zS (zDf tyF (RG Hr fR) (ixC B0) (ixC R2) cr) ?_;exact rest.out s4 j4 _ _ Z5 hjR fR D5 (iG T5) ⟨zL,zL⟩
   |true=>
    rw[hB]at T5;refine zS (zDg vo tyF (RG Hr fR) (ixC B0) (ixC R2) cr) ?_;obtain⟨C6,B3⟩:=drop_one T5;refine WE.con (sb B s4 j4 Hr us nm u qb il 3 i (n-cs.getD (i+1) 0*vs.getD (i+1) 0+cs.getD (i+1) 0*vs.getD i 0) hjR (huS Hr fR) B0 aa (RG Hr fR).1.2 (RG Hr fR).2.1.2 (RG Hr fR).1.1 (RG Hr fR).2.1.1 C6) λw' Hp0 fp0⟨b,s3,hq,N7,p_,X7⟩=>?_;subst hq;have fP:=fR.then fp0 λk hk=>(D5 k hk).symm;have E6:∀k,B.fp s3 k->B.fp s k\/H6.nx<=k:=λk hk=>(X7 k hk).elim (λh=>D5 k h) λh=>.inr (aS fR.nx h);have S6:(if okN (n-cs.getD (i+1) 0*vs.getD (i+1) 0+cs.getD (i+1) 0*vs.getD i 0)=true then j4+1 else j4)<=S.length:=by
     cases E0:okN (n-cs.getD (i+1) 0*vs.getD (i+1) 0+cs.getD (i+1) 0*vs.getD i 0)with
     |true=>have:=(List.getElem?_eq_some_iff.1 (C6 E0)).1;rw[ad rfl];exact this
     |false=>rw[ab zA8];exact Z5
    generalize(if okN (n-cs.getD (i+1) 0*vs.getD (i+1) 0+cs.getD (i+1) 0*vs.getD i 0)=true then j4+1 else j4)=jP at B3 N7 S6
    cases b with
    |false=>refine zS (tyF) ?_;exact bad.out s3 _ _ (p_ rfl) fP E6 ⟨zL,zL,zL⟩
    |true=>replace N7:=N7 rfl;clear p_ C6;refine zS (zDf tyF (RG Hp0 fP) (ixC B0) (ixC R2) cr) ?_;exact rest.out s3 jP _ _ S6 N7 fP E6 B3 ⟨zL,zL⟩
  have bad:Hd (∀(s4:σ)(A8:ag)(H8:Hp),B.F s4 H8->Fr (B.fp s) H6 H8->(∀k,B.fp s4 k->B.fp s k\/H6.nx<=k)->eO A8 87 (.b true) 180 []->K3 A8 H8):=by clear t2 t4 t6 t9 t10 t45 t46 z0 A0;rintro s4 A8 H8 h1 h2 h3 ⟨t87,z0,A0⟩;apply F8.out;refine zW tyF ?_;exact stop.out s4 _ _ h1 h2 h3 qe
  clear F8;by_cases hA:0<cs.getD i 0
  ·have eA:decide (0<cs.getD i 0)=true:=bp hA;rw[eA]at C9;refine zS (zDf tyF (RG H7 f7) vo (ixC B0) cr) ?_;obtain⟨C6,B3⟩:=drop_one C9;refine WE.con (sb B s2 j H7 us nm u qb il 1 i (n-vs.getD i 0) hj7 (huS H7 f7) B0 aa (RG H7 f7).1.2 (RG H7 f7).2.1.2 (RG H7 f7).1.1 (RG H7 f7).2.1.1 C6) λw' Hp0 fp0⟨b,s3,hq,N7,p_,X7⟩=>?_;subst hq;have fP:=f7.then fp0 λk hk=>(M7 k hk).symm;have E6:∀k,B.fp s3 k->B.fp s k\/H6.nx<=k:=λk hk=>(X7 k hk).elim (λh=>M7 k h) λh=>.inr (aS f7.nx h);have S6:(if okN (n-vs.getD i 0)=true then j+1 else j)<=S.length:=by
    cases E0:okN (n-vs.getD i 0)with
    |true=>have:=(List.getElem?_eq_some_iff.1 (C6 E0)).1;rw[ad rfl];exact this
    |false=>rw[ab zA8];exact hjS
   generalize(if okN (n-vs.getD i 0)=true then j+1 else j)=jP at B3 N7 S6
   cases b with
   |false=>refine zS (tyF) ?_;exact bad.out s3 _ _ (p_ rfl) fP E6 ⟨zL,zL,zL⟩
   |true=>
    replace N7:=N7 rfl;clear p_ C6;refine zS (zDf tyF (RG Hp0 fP) zj (ixC B0) cr) ?_;refine WE.con (wG Hp0 us cs nm u _ qc il i (cs.getD i 0+1) (huS Hp0 fP) (hcS Hp0 fP) S1.out B0 aa (RG Hp0 fP).2.2.2.1.2 (RG Hp0 fP).2.1.2 (RG Hp0 fP).2.2.2.1.1 (RG Hp0 fP).2.1.1) λw' Hr gr hq=>?_;subst hq;have fR:=fP.gr gr;have hjR:=B.hJ N7 gr.nx λk hk=>gr.get k hk aE;cases hB:nP us i (cs.getD i 0+1)with
    |false=>rw[hB]at B3;refine zS (qA tyF (RG Hr fR)) ?_;exact rest.out s3 jP _ _ S6 hjR fR E6 (iG B3) ⟨zL,zL,zL⟩
    |true=>
     rw[hB]at B3;refine zS (zDf tyF (RG Hr fR) vo (ixC B0) cr) ?_;obtain⟨C6,B3⟩:=drop_one B3;refine WE.con (sb B s3 jP Hr us nm u qb il 2 i (n+vs.getD i 0) hjR (huS Hr fR) B0 aa (RG Hr fR).1.2 (RG Hr fR).2.1.2 (RG Hr fR).1.1 (RG Hr fR).2.1.1 C6) λw' Hp0 fp0⟨b,s3,hq,N7,p_,X7⟩=>?_;subst hq;have fP:=fR.then fp0 λk hk=>(E6 k hk).symm;have E6:∀k,B.fp s3 k->B.fp s k\/H6.nx<=k:=λk hk=>(X7 k hk).elim (λh=>E6 k h) λh=>.inr (aS fR.nx h);have S6:(if okN (n+vs.getD i 0)=true then jP+1 else jP)<=S.length:=by
      cases E0:okN (n+vs.getD i 0)with
      |true=>have:=(List.getElem?_eq_some_iff.1 (C6 E0)).1;rw[ad rfl];exact this
      |false=>rw[ab zA8];exact S6
     generalize(if okN (n+vs.getD i 0)=true then jP+1 else jP)=jP at B3 N7 S6
     cases b with
     |false=>refine zS (tyF) ?_;exact bad.out s3 _ _ (p_ rfl) fP E6 ⟨zL,zL,zL⟩
     |true=>replace N7:=N7 rfl;clear p_ C6;refine zS (qA tyF (RG Hp0 fP)) ?_;exact rest.out s3 jP _ _ S6 N7 fP E6 B3 ⟨zL,zL,zL⟩
  have eA:decide (0<cs.getD i 0)=false:=bJ hA;rw[eA]at C9;replace C9:=iG C9;refine zS (zDf tyF (RG H7 f7) zj (ixC B0) cr) ?_;refine WE.con (wG H7 us cs nm u _ qc il i (cs.getD i 0+1) (huS H7 f7) (hcS H7 f7) S1.out B0 aa (RG H7 f7).2.2.2.1.2 (RG H7 f7).2.1.2 (RG H7 f7).2.2.2.1.1 (RG H7 f7).2.1.1) λw' Hr gr hq=>?_;subst hq;have fR:=f7.gr gr;have hjR:=B.hJ hj7 gr.nx λk hk=>gr.get k hk aE;cases hB:nP us i (cs.getD i 0+1)with
  |false=>rw[hB]at C9;refine zS (qA tyF (RG Hr fR)) ?_;exact rest.out s2 j _ _ hjS hjR fR M7 (iG C9) ⟨zL,zL,zL⟩
  |true=>
   rw[hB]at C9;refine zS (zDf tyF (RG Hr fR) vo (ixC B0) cr) ?_;obtain⟨C6,B3⟩:=drop_one C9;refine WE.con (sb B s2 j Hr us nm u qb il 2 i (n+vs.getD i 0) hjR (huS Hr fR) B0 aa (RG Hr fR).1.2 (RG Hr fR).2.1.2 (RG Hr fR).1.1 (RG Hr fR).2.1.1 C6) λw' Hp0 fp0⟨b,s3,hq,N7,p_,X7⟩=>?_;subst hq;have fP:=fR.then fp0 λk hk=>(M7 k hk).symm;have E6:∀k,B.fp s3 k->B.fp s k\/H6.nx<=k:=λk hk=>(X7 k hk).elim (λh=>M7 k h) λh=>.inr (aS fR.nx h);have S6:(if okN (n+vs.getD i 0)=true then j+1 else j)<=S.length:=by
    cases E0:okN (n+vs.getD i 0)with
    |true=>have:=(List.getElem?_eq_some_iff.1 (C6 E0)).1;rw[ad rfl];exact this
    |false=>rw[ab zA8];exact hjS
   generalize(if okN (n+vs.getD i 0)=true then j+1 else j)=jP at B3 N7 S6
   cases b with
   |false=>refine zS (tyF) ?_;exact bad.out s3 _ _ (p_ rfl) fP E6 ⟨zL,zL,zL⟩
   |true=>replace N7:=N7 rfl;clear p_ C6;refine zS (qA tyF (RG Hp0 fP)) ?_;exact rest.out s3 jP _ _ S6 N7 fP E6 B3 ⟨zL,zL,zL⟩
 have U0:i=us.length:=aa;refine zW tyF ?_;apply k2.out;have hjl:B.J S.length s2 H7:=by have h:=C9.out;have e:(List.range us.length).drop i=[]:=HN (by rw[wX];omega);rw[e,List.flatMap_nil]at h;have h2:=congrArg List.length h;rw[iW,List.length_nil]at h2;have h3:j=S.length:=aa;exact h3▸hj7
 exact fin .normal (.inl rfl) s2 H7 _ (.inl hjl) f7 M7 qe
def FZ:ao prog 52=true:=ae
def FA(H:Hp)(n u:AC)(m:Int)(hu:ltV (.one u) H.nx):
  Con E2 40 [.agg [n,u],.one (.i .i64 m)] H (λ_=>False) λr H'=>r=.one (.o (.clo 65 [(H.nx,0,0,2),(H.nx+1,0,0,1)]))/\H'.get H.nx=some (.arr [n,u] 51 0 0)/\H'.get (H.nx+1)=some (.arr [.i .i64 m] 3 0 0)/\H.nx+1<H'.nx:=by
 refine Con.BB (λH=>ltV (.one u) H.nx) hu λH e hu=>?_;rw[<-e];clear e;refine C1.fD 6 [.tmp 4] Tryz.func40 λtm h0 h1=>?_;refine zW tyF ?_;refine⟨_,_,aw (.o (.clo 65 [(H.nx,0,0,2),(H.nx+1,0,0,1)])) (.inr rfl) qe qp,((Fr.refl _).new _).new _,λ_=>⟨rfl,?_,?_,?_⟩⟩
 ·show((H.new _).new _).get H.nx=_;rw[bw (by show H.nx<H.nx+1;omega)];exact aC rfl
 ·show((H.new _).new _).get (H.nx+1)=_;exact aC rfl
 show H.nx+1<H.nx+1+1;omega
def iO:List Sp->Int->Int
 |[],_=>0
 |x::S,m=>if x.2.2=m then x.1 else iO S m
def Va(H:Hp)(nm:List UInt8)(u:AC)(us:List Pr)(m n:Int)(hu:SlP H u us)(L0:aP nm us=0)(J3:1<=n)(W3:n<=1099511627776)(hSB:LH us (az us n) (eY nm us)):
  Con E2 52 [.agg [.o (.str nm),u],.one (.i .i64 m),.one (.i .i64 n)] H (λ_=>False) λr _=>r=.one (.i .i64 (iO (gM us (az us n) (eY nm us) n) m)):=by
 refine Con.lT (λH=>SlP H u us) hu λH hu=>?_;refine C1.yV 18 [.cell 6 3] Tryz.func52 λtm h0 h1 h2=>?_;have W2:∀id∈(AV.one u).ids,id<H.nx:=hu.lt;generalize C0:iO (gM us (az us n) (eY nm us) n) m=r0;refine zG tyF λK hK=>?_;apply hK.out;refine R1.gen (λA1 H1=>Gr H H1/\H.nx+2<H1.nx/\H1.get H.nx=some (.arr [.o (.str nm),u] 51 0 0)/\H1.get (H.nx+1)=some (.arr [.i .i64 m] 3 0 0)/\H1.get (H.nx+1+1)=some (.arr [.i .i64 0] 3 0 0)/\ju A1 n (jN A1 H.nx (jM A1 (H.nx+1) (eO A1 6 (.o (.ptr (H.nx+1+1) 0 0 1)) 18 []))))
  ⟨(((Fr.refl _).new _).new _).new _,by show H.nx+2<H.nx+1+1+1;omega,by rw[bw (by show H.nx<H.nx+1+1;omega),bw (by show H.nx<H.nx+1;omega)];exact aC rfl,by rw[bw (by show H.nx+1<H.nx+1+1;omega)];exact aC rfl,aC rfl,zL⟩ ?_
 clear h0 h1 h2 tm hK K;rintro A1 H1 ⟨g1,n1,r1,r2,r3,t2,t3,t4,t6,z0,A0⟩;have J2:SlP H1 u us:=hu.gr g1;obtain⟨c1,R7⟩:=dI H.nx;obtain⟨c2,N9⟩:∃c,c=H.nx+1:=⟨_,rfl⟩;obtain⟨c3,V8⟩:∃c,c=H.nx+1+1:=⟨_,rfl⟩;rw[<-V8]at r3 t6;rw[<-N9]at r2 t4;rw[<-R7]at r1 t3 W2;have o12:c1<c2:=aa;have o23:c2<c3:=aa;have o3:c3<H1.nx:=aa;have S2:H.nx<=c1:=aa;clear V8 N9 R7 n1;have l1:c1<H1.nx:=aa;have l2:c2<H1.nx:=aa;have fin:∀(e:au)(A:ag)(H2 H3:Hp),(e=.normal\/e=.ret)->closeAll H2 A.dfr=some H3->Gr H H3->slot A.tm 6=.one (.o (.ptr c3 0 0 1))->H3.get c3=some (.arr [.i .i64 r0] 3 0 0) ->
   ∃w H4,aK E2 [.cell 6 3] (e,A,H2)=.ok [(w,H4)]/\Gr H H4/\∀_:List Nat,w=.one (.i .i64 r0):=λe A H2 H3 he hd hg hs hr=>
  ⟨_,H3,vt (c:=.i .i64 r0) bF he hd hs (by rw[hr];exact cH (ai _) (ai _)) (ai _) (ai _) rfl,hg,λ_=>rfl⟩
 replace C0:=ay C0;refine zG (qA tyF IA) λK hK=>?_;refine WE.con (FA H1 (.o (.str nm)) u n J2.lt) λv H5 g5⟨hv,U3,O8,I9⟩=>?_;subst hv;refine zS tyF ?_;apply hK.out;refine R1.lq (λA4=>jN A4 c1 (jM A4 c2 (nu A4 6 10 (.o (.ptr c3 0 0 1)) (.o (.clo 65 [(H1.nx,0,0,2),(H1.nx+1,0,0,1)])) 18 []))) zL ?_;clear t2 t3 t4 t6 z0 A0 A1 hK K;rintro A ⟨t3,t4,t6,t10,z0,A0⟩;have gg:Gr H H5:=g1.gr g5;have r2:=(g5.get _ l2 aE).trans r2;have r3:=(g5.get _ o3 aE).trans r3;have o6:SlP H5 u us:=J2.gr g5;obtain⟨il,F_⟩:=dI H1.nx;rw[<-F_]at U3 O8 I9 t10 o3 l1 l2;clear F_ r1;generalize hS:gM us (az us n) (eY nm us) n=S at C0;refine R1.bj λK k1 k2 k3 k4=>?_;refine R1.range (σ:=Unit) (g:=65) (caps:=[(il,0,0,2),(il+1,0,0,1)]) (n:=S.length) (ar:=slA S) (D:=λk=>k=il\/k=il+1\/k∈(AV.one u).ids) (by simp only[DU,t10]) Dz (λ_=>rfl)
  (Fz H5 il (il+1) nm u us n aa U3 I9 O8 o6 L0 J3 W3 _ _ rfl rfl hSB S hS) (λk hk=>by
   rcases hk with h|h|h
   ·omega
   ·omega
   exact wY (W2 k h) aa) (by rw[z0];rfl) (λi _=>PV S i)
  (λi _ H6=>H6.get c2=some (.arr [.i .i64 m] 3 0 0)/\H6.get c3=some (.arr [.i .i64 0] 3 0 0)/\Hd (iO (S.drop i) m=r0)/\H5.nx<=H6.nx)
  (λe _ H6=>e=.ret/\H6.get c3=some (.arr [.i .i64 r0] 3 0 0)/\H5.nx<=H6.nx)
  (λ_ k=>k=c3) ?_ ?_ ?_ () ?_ ?_ ?_ ?_
 ·rintro i _ H6 H7 ⟨a1,a2,a4,a5⟩ hs;exact⟨by rw[hs.get _ aa aa];exact a1,by rw[hs.get _ aa aa];exact a2,a4,aS a5 hs.nx⟩
 ·rintro e _ H6 H7 ⟨a1,a2,a5⟩ hs;exact⟨a1,by rw[hs.get _ aa aa];exact a2,aS a5 hs.nx⟩
 ·rintro i _ H6 k ⟨a1,a2,a4,a5⟩ rfl;refine⟨aa,aa,aa,λh=>?_⟩;rcases h with h|h|h
  ·omega
  ·omega
  have:=W2 _ h;omega
 ·intro H6 g6 n6;exact⟨by rw[g6.get _ aa aE];exact r2,by rw[g6.get _ aa aE];exact r3,by rw[List.drop_zero];exact C0,g6.nx⟩
 ·rintro i _ H6 hi ⟨a1,a2,a4,a5⟩ n6;have hy:=aA hi;have M0:=List.drop_eq_getElem_cons hi;generalize S[i]=y at hy M0;replace a4:=a4.out;rw[M0,iO]at a4;rw[Nh hy];obtain⟨kd,sg,nn⟩:=y;refine R1.lq (λA7=>jM A7 c2 (slot A7.tm 6=.one (.o (.ptr c3 0 0 1))/\slot A7.tm 11=.agg [.i .i64 kd,.o (.str sg),.i .i64 nn]/\A7.nt=18/\A7.dfr=[])) ⟨?_,?_,?_,z0,rfl⟩ ?_
  ·show slot (A.tm.set 11 _) 4=_;simp only[dt,Nat.reduceEqDiff,reduceIte,t4]
  ·show slot (A.tm.set 11 _) 6=_;simp only[dt,Nat.reduceEqDiff,reduceIte,t6]
  ·show slot (A.tm.set 11 _) 11=_;simp only[dt,Nat.reduceEqDiff,reduceIte];rfl
  clear t3 t4 t6 t10 z0 A0 r2 r3;rintro A7 ⟨t4,t6,t11,z0,A0⟩;replace hS:=ay hS;replace a4:=ay a4;clear M0 hy;refine zW tyF ?_;refine⟨rfl,((Fr.refl _).new _).mod _ (.inl (ai _)),λH8 n8 s8=>?_⟩;have gu:H8.get H6.nx=some (.arr [.i .i64 kd,.o (.str sg),.i .i64 nn] 63 0 0):=by rw[s8.get _ (by show H6.nx<H6.nx+1;omega) aa];exact aq rfl
  have kR:∀k,k<H5.nx->H8.get k=H6.get k:=λk hk=>by rw[s8.get _ (by show k<H6.nx+1;omega) aa,aB aa,bw aa]
  have n8':H8.nx=H6.nx+1:=n8;have b2:H8.get c2=some (.arr [.i .i64 m] 3 0 0):=(kR c2 aa).trans a1;have b3:H8.get c3=some (.arr [.i .i64 0] 3 0 0):=(kR c3 aa).trans a2;have lu:H6.nx<H8.nx:=aa;have m2:c2<H8.nx:=aa;have m3:c3<H8.nx:=aa;have m5:H5.nx<=H8.nx:=aa;clear kR n8 n8' a1 a2 s8;refine R1.lS λK2 p1 p2 p3 p4=>?_;by_cases B6:nn=m
  ·have e4:=a4.out;rw[ad B6]at e4;replace e4:kd=r0:=e4;clear a4;have cs:=beq_iff_eq.2 B6;replace B6:=ay B6;replace e4:=ay e4;refine zW tyF ?_;refine p4 _ _ ⟨qe,(Fr.refl _).mod _ (.inr (.inl rfl)),(),λh=>(by cases h),λ_=>⟨rfl,?_,m5⟩,λk hk=>.inl hk⟩;rw[<-e4.out];exact aq rfl
  have e4:=a4.out;rw[ab B6]at e4;clear a4;have cs:(nn==m)=false:=aF B6;replace B6:=ay B6;replace e4:=ay e4;refine zW tyF ?_;refine p1 _ _ ⟨qe,Fr.refl _,(),λ_=>⟨b2,b3,e4,m5⟩,λh=>absurd rfl h,λk hk=>.inl hk⟩
 ·rintro s' H6 ⟨a1,a2,a4,a5⟩ n6 hd6 X6 M7;have g6:Gr H H6:=gg.then X6 λk hk=>.inl (by rcases hk with rfl;omega);have m3:c3<H6.nx:=aa;replace a4:=a4.out;rw[ct,iO]at a4;refine k1 _ _ ?_;refine R1.lq (λA7=>slot A7.tm 6=.one (.o (.ptr c3 0 0 1))/\A7.nt=18/\A7.dfr=[H5.nx]) ⟨t6,z0,by show H5.nx::A.dfr=_;rw[A0]⟩ ?_;clear t3 t4 t6 t10 z0 A0 r2 r3;rintro A7 ⟨t6,z0,A0⟩;replace hS:=ay hS;replace a4:=ay a4;refine zW tyF ?_;refine fin .ret _ _ _ (.inr rfl) (by simp only[aM,A0];exact iF (by rw[aB aa];exact hd6)) ((g6.mod _ (.inl aa)).mod _ (.inl (by have:=gg.nx;omega))) t6 (by rw[aB aa,<-a4.out];exact aq rfl)
 rintro e s' H6 Q0 ⟨rfl,a2,a5⟩ n6 hd6 X6 M7;have g6:Gr H H6:=gg.then X6 λk hk=>.inl (by rcases hk with rfl;omega);exact k4 _ _ (fin .ret _ _ _ (.inr rfl) (by show closeAll H6 (H5.nx::A.dfr)=_;rw[A0];exact iF hd6) (g6.mod _ (.inl (by have:=gg.nx;omega))) t6 (by rw[aB aa];exact a2))
def Bh:∀(us:List Pr)(ds:List Int)(i:Nat)(d:Int),ds.length=us.length->i<us.length->evH us (ds.set i d)=evH us ds+(d-ds.getD i 0)*vW us i
 |[],_,i,_,_,hi=>absurd hi (Nat.not_lt_zero i)
 |_::_,[],_,_,h,_=>by cases h
 |[x],c::ds,i,d,h,hi=>by
  have:i=0:=by simp at hi;omega
  subst this;show d=c+(d-c)*1;omega
 |x::y::l,c::ds,0,d,h,hi=>by show d+y.2*evH (y::l) ds=c+y.2*evH (y::l) ds+(d-c)*1;omega
 |x::y::l,c::ds,i+1,d,h,hi=>by rw[List.set_cons_succ,evH,evH,Bh (y::l) ds i d (by simpa using h) (by simp at hi |-;omega),List.getD_cons_succ,vW,Int.mul_add,Int.add_assoc,Int.mul_left_comm]
def Qm:∀(us:List Pr)(i:Nat),i+1<us.length->vW us (i+1)=vW us i*(us.getD (i+1) ([],0)).2
 |[],i,h=>absurd h (Nat.not_lt_zero _)
 |[_],i,h=>absurd h (by simp)
 |x::y::l,0,_=>by show y.2*1=1*y.2;omega
 |x::y::l,i+1,h=>by rw[vW,Qm (y::l) i (by simp at h |-;omega),vW,Int.mul_assoc];rfl
def Nt:∀(us:List Pr)(i:Nat),i<us.length->(∀x∈us,1<=x.2)->1<=vW us i
 |_,0,_,_=>by rw[vW];omega
 |[],i+1,h,_=>absurd h (Nat.not_lt_zero _)
 |[_],i+1,h,_=>absurd h (by simp)
 |x::y::l,i+1,h,hf=>by rw[vW];have h1:=Nt (y::l) i (by simp at h |-;omega) λz hz=>hf z (aR _ hz);have h2:=hf y (by simp);have:=sC h2 h1 aa aa;omega
def aae:∀(us:List Pr)(ds:List Int),tY us ds->(∀x∈us,1<=x.2)->0<=evH us ds/\∀i,i<us.length->ds.getD i 0*vW us i<=evH us ds
 |[],[],_,_=>⟨ot _,λi hi=>absurd hi (Nat.not_lt_zero i)⟩
 |[],_::_,h,_=>by cases h.1
 |[_],[],h,_=>by cases h.1
 |[x],[d],h,_=>⟨(h.2 0 (by simp)).1,λi hi=>by
  have:i=0:=by simp at hi;omega
  subst this;show d*1<=d;omega⟩
 |[_],_::_::_,h,_=>by cases h.1
 |_::_::_,[],h,_=>by cases h.1
 |x::y::l,d::ds,h,hf=>by
  obtain⟨h0,h1,h2⟩:=h.tl;obtain⟨e0,e1⟩:=aae (y::l) ds h2 λz hz=>hf z (aR _ hz);have hy:=hf y (by simp);have e2:0<=y.2*evH (y::l) ds:=Int.mul_nonneg aa e0;rw[evH];refine⟨aa,λi hi=>?_⟩;cases i with
  |zero=>show d*1<=_;omega
  |succ i=>have e3:=e1 i (by simp at hi |-;omega);rw[List.getD_cons_succ,vW,Int.mul_left_comm];have:=wZ e3 (show 0<=y.2 by omega);omega
def XD:∀(v:Int)(x:Pr)(l:List Pr)(i:Nat)(y:Pr×Int),(yv v (x::l)).length=(x::l).length->(yv v (x::l))[i]?=some y->y.2=v*x.2*vW (x::l) i/\y.2<=1099511627776
 |v,x,l,i,y,h,hy=>by
  rw[yv]at h hy;by_cases hb:x.2<1\/60<x.2\/1099511627776<v*x.2
  ·rw[ad hb]at hy;simp at hy
  rw[ab hb]at h hy;cases i with
  |zero=>
   rw[List.getElem?_cons_zero]at hy;cases hy
   rw[vW];exact⟨by show v*x.2=_;omega,by show v*x.2<=_;omega⟩
  |succ i=>
   rw[List.getElem?_cons_succ]at hy;cases l with
   |nil=>rw[yv]at hy;simp at hy
   |cons z l=>obtain⟨e1,e2⟩:=XD (v*x.2) z l i y (by simpa using h) hy;exact⟨by rw[e1,vW,Int.mul_assoc (v*x.2)],e2⟩
def lh{nm:List UInt8}{us:List Pr}(L0:aP nm us=0){i:Nat}(hi:i<us.length):(eY nm us).getD i 0=vW us i/\vW us i<=1099511627776:=by
 obtain⟨hL,B8,hf⟩:=eR L0;have hx:=aA hi;have E0:iP nm us=true:=by
  unfold aP at L0;by_cases h:iP nm us=true
  ·exact h
  rw[ab h]at L0;cases L0
 have u6:=E0;rw[<-Fk]at u6;unfold ko at u6;simp only[aV,om,CD]at u6;have hr:=u6.1.2 i hi;have eg:us.getD i ([],0)=us[i]:=by rw[bt,hx];rfl
 rw[eg]at hr;unfold pf at hr;simp only[aV,bI]at hr;have hid:=hr.2.1;have e1:(eY nm us).getD i 0=(tM nm us us[i].1).1:=by unfold eY;rw[bt,pV,hx];rfl
 rw[e1];unfold tM;rw[ab (λh=>h L0)];obtain⟨x,l,hxl,O0⟩:=eT L0;rcases Lu 0 1 us us[i].1 B8 with⟨h1,_⟩|⟨j,y,hj,h1,h2,h3⟩
 ·rw[hid]at h1;omega
 have:j=i:=by rw[hid]at h1;omega
 subst this;rw[h3];subst hxl;obtain⟨a,b⟩:=XD 1 x l j y B8 h2;rw[O0,lG,lG]at a;exact⟨a,a▸b⟩
def zN{nm:List UInt8}{us:List Pr}(L0:aP nm us=0){n:Int}(J3:0<=n)(W3:n<=1099511627776):LH us (az us n) (eY nm us):=by
 obtain⟨hL,B8,hf⟩:=eR L0;have L9:∀x∈us,1<=x.2:=λx hx=>(hf x hx).1;obtain⟨x,l,hxl,O0⟩:=eT L0;have hd:=oJ us n J3 L9;have he:=ru us n (by rw[hxl];simp);have hg:=(aae us _ hd L9).2;rw[he]at hg;have key:∀i,i<us.length->0<=(az us n).getD i 0/\(az us n).getD i 0<=1099511627776/\(az us n).getD i 0*vW us i<=1099511627776/\0<=(az us n).getD i 0*vW us i:=λi hi=>by have a1:=(hd.2 i hi).1;have a2:=hg i hi;have a3:=Nt us i hi L9;have a4:=wZ a3 a1;exact⟨a1,aa,aa,aa⟩
 intro i hi;obtain⟨k1,k2,k3,k4⟩:=key i hi;obtain⟨v1,v2⟩:=lh L0 hi;have v3:=Nt us i hi L9;rw[v1];refine⟨⟨k1,k2⟩,⟨aa,v2⟩,λI3=>?_⟩;obtain⟨l1,l2,l3,l4⟩:=key (i+1) I3;obtain⟨w1,w2⟩:=lh L0 I3;rw[w1];have hy:=hf (us.getD (i+1) ([],0)) (by rw[bt,aA I3];exact bW I3);have ws:=Qm us i I3;have s1:vW us i<=vW us (i+1):=by rw[ws];have:=wZ hy.1 (show 0<=vW us i by omega);omega
 have s2:=wZ s1 l1;have s3:(az us n).getD i 0*vW us (i+1)=(az us n).getD i 0*vW us i*(us.getD (i+1) ([],0)).2:=by rw[ws,Int.mul_assoc]
 have s4:=wZ hy.2 k4;have s5:=Int.mul_nonneg k4 (show 0<=(us.getD (i+1) ([],0)).2 by omega);have s6:=Int.mul_nonneg l1 (show 0<=vW us i by omega);exact⟨⟨l4,l3⟩,⟨s6,aa⟩,⟨k4,k3⟩,aa,aa⟩
end Go.Proofs.YtgepceljhelekaaGreat
end

/- A part of the proof: BkNum1, BkNum2, BkNum3, BkNum5, BkNum6, BkNum7, BkNum8, BkNum10, BkPz1, BkPz2, BkPz4, BkPz5. No conditions. -/
import Derived.Test.YtnhbkodnmkojpaaGreatQAl
set_option maxRecDepth 100000
set_option maxHeartbeats 64000000
set_option linter.unusedVariables false
set_option linter.unusedSimpArgs false
noncomputable section
namespace Go.Proofs.YtnhbkodnmkojpaaGreat
open Go Go.Eng
theorem tQ:al Tryz.prog 118=true:=by kernel_rfl
theorem qt:al Tryz.prog 66=true:=by kernel_rfl
theorem nq:al Tryz.prog 117=true:=by kernel_rfl
theorem jc:al Tryz.prog 65=true:=by kernel_rfl
abbrev Gp:=Int×List UInt8×Bool
def gpC (x:Gp):List AC:=[.i .i64 x.1,.o (.str x.2.1),.b x.2.2]
theorem du (x:Gp):gpC x=[.i .i64 x.1,.o (.str x.2.1),.b x.2.2]:=by unfold gpC;rfl
theorem RS (x:Gp):(gpC x).length=3:=rfl
def aO (H:Hp) (v:AC) (l:List Gp):Prop:=SlC H v 3 l.length (l.flatMap gpC)
theorem aO.gr {H H':Hp} {v:AC} {l:List Gp} (h:aO H v l) (hg:Gr H H'):aO H' v l:=SlC.gr h hg
theorem aO.len {H:Hp} {v:AC} {l:List Gp} (h:aO H v l):cR H 1 (.one v)=.val (.one (.i .i64 (l.length:Int))) H:=SlC.len h
theorem aO.lt {H:Hp} {v:AC} {l:List Gp} (h:aO H v l):ltV (.one v) H.nx:=mA h
theorem aO.nil {H:Hp}:aO H (.o .nilS) []:=⟨by simp,.inl ⟨rfl,rfl⟩⟩
structure GpAt (cells:List AC) (o:Nat) (x:Gp):Prop where
 all:(cells.drop o).take 3=gpC x
 le:o+3≤cells.length
 le1:o+1≤cells.length
 le2:o+1+1≤cells.length
 le3:o+2+1≤cells.length
 f1:(cells.drop o).headD (.b false)=.i .i64 x.1
 f2:(cells.drop (o+1)).headD (.b false)=.o (.str x.2.1)
 f3:(cells.drop (o+2)).headD (.b false)=.b x.2.2
theorem aO.open {H:Hp} {v:AC} {l:List Gp} (h:aO H v l) (hn:0<l.length):∃ id g off cells,v=.o (.sl id g off l.length 3)∧id<H.nx∧rowOf (H.get id) g=some cells∧∀ (i:Nat) (x:Gp),l[i]?=some x→GpAt cells (off+i*3) x:=by
 obtain ⟨id,g,off,h1,h2,hr⟩:=SlC.pos h hn;have L3:=hr;obtain ⟨cells,h3,h6,h7⟩:=hr;refine ⟨id,g,off,cells,h1,h2,h3,fun i x hx=>?_⟩;obtain ⟨cells',k3,k6,k7⟩:=Rd.at (c:=gpC) RS L3 hx;rw[h3] at k3;cases k3
 obtain ⟨a,b,c⟩:=TF k7;exact ⟨k7,k6,by omega,by omega,by omega,a,b,c⟩
def pX (x:Gp):Bool:=x.1==0&&(x.2.1==[]&&(x.2.2==false&&true))
def jf (l:List Gp):Bool:=l.any fun x=>pX x||x.2.2
theorem py (H:Hp) (x:Gp):Con E2 118 [.agg (gpC x)] H (fun _=>False) fun r _=>r=.one (.b (pX x)):=by
 refine Con.of rfl fun lg=>?_;generalize (⟨H.t,H.nx,lg⟩:Hp)=H;refine C1.body (E:=E2) (nt:=6) (res:=[.tmp 2]) Tryz.func118 rfl rfl rfl rfl rfl fun tm A0=>?_;have h0:=A0 0 _ rfl;clear A0;repeat' first|refine R1.ret ?_|refine R1.exit ?_|refine R1.skip ?_|refine R1.rF ?_|refine R1.lO ?_|refine R1.au ?_|refine R1.aY ?_|refine R1.ja ?_|((first|refine R1.FE fun K hK=>?_|refine R1.oP fun K hK=>?_|refine R1.EY (by kernel_rfl) fun K hK=>?_|refine R1.AQ (by kernel_rfl) fun K hK=>?_);simp only[qB,ay,Nat.reduceLT,Nat.reduceAdd,ae,h0,gpC,fl,mc,HK,LQ Hu];refine hK _ _ ?_;clear hK K)
 exact ⟨_,_,aj (.b (pX x)) (.inr rfl) rfl (by simp only[aa,Nat.reduceEqDiff,reduceIte,pX,id_eq]),(Fr.refl _).new _,fun _=>rfl⟩
theorem oe (H:Hp) (v:AC) (l:List Gp) (hv:aO H v l) (hL:l.length≤1000000):
  Con E2 66 [.one v] H (fun _=>False) fun r _=>r=.one (.b (jf l)):=by
 refine Con.of rfl fun lg=>?_;have hv:aO ⟨H.t,H.nx,lg⟩ v l:=hv;generalize (⟨H.t,H.nx,lg⟩:Hp)=H at hv ⊢;refine C1.body (E:=E2) (nt:=18) (res:=[.tmp 2]) Tryz.func66 rfl rfl rfl rfl rfl fun tm A0=>?_;have h0:=A0 0 _ rfl;clear A0;have fin:∀ (b:Bool) (A:ab) (H3:Hp),slot A.tm 2=.one (.b b)→A.dfr=[]→Gr H H3→b=jf l→∃ w H4,aC E2 [.tmp 2] (.ret,A,H3)=.ok [(w,H4)]∧Gr H H4∧∀ _:List Nat,w=.one (.b (jf l)):=fun b A H3 h1 h2 h3 h4=>⟨_,H3,aj (.b b) (.inr rfl) h2 h1,h3,fun _=>by rw[h4]⟩;generalize E0:jf l=r0 at fin;refine qW (qA ae (qA h0 (qA dR (qA hv.len hv.lt)))) ?_;refine R1.aK fun K k1 k2 k3 k4=>?_;refine R1.loop (fun k A H1=>∃ i:Nat,k=l.length - i∧i≤l.length∧Gr H H1∧jf (l.drop i)=r0∧slot A.tm 5=.one v∧slot A.tm 6=.one (.i .i64 (l.length:Int))∧slot A.tm 7=.one (.i .i64 (i:Int))∧A.nt=18∧A.dfr=[]) ?_ l.length
  ⟨0,rfl,Nat.zero_le _,Fr.refl _,E0,?_⟩
 ·clear h0 tm;rintro k A H1 ⟨i,rfl,hi,g1,hr,t5,t6,t7,B0,C0⟩;have Y1:=hv.gr g1;refine qW (qA ae (qA t6 (qA t7 B0))) ?_;refine qE fun Kx Ky hx hy=>?_;refine dV (fun hc=>hx ?_) (fun hc=>hy ?_)
  ·clear hx hy Kx Ky;have D0:i<l.length:=by omega
   obtain ⟨id,g,off,cells,rfl,hid,R0,J0⟩:=Y1.open (by omega);have ex:=zB4 D0;have O0:=zC1 D0;generalize l[i]=x at ex O0;have K0:=J0 i x ex;have Q1:=zC0 i (by omega);rw[O0,jf,List.any_cons] at hr;refine qV ?_;refine R1.aK fun K2 q1 q2 q3 q4=>?_;refine qG (qA ae (qA t5 (qA t7 (qA B0 (qA eS (qA fl (qA qx (qA mc (qA (ixC D0) (qA hid (qA R0 (qA K0.all (qA K0.le du))))))))))))) fun K hK=>?_;refine hK _ _ ?_;clear hK K;refine R1.gen (fun A3 H3=>Gr H1 H3∧H1.nx<H3.nx∧H3.get H1.nx=some (.arr (gpC x) 181 0 0)∧slot A3.tm 4=.one (.o (.ptr H1.nx 0 0 3))∧slot A3.tm 5=.one (.o (.sl id g off l.length 3))∧slot A3.tm 6=.one (.i .i64 (l.length:Int))∧slot A3.tm 7=.one (.i .i64 (i:Int))∧A3.nt=18∧A3.dfr=[])
    ⟨((Fr.refl _).new _).mod _ (.inl (zA1 _)),?_⟩ ?_
   ·exact qZ (qA t5 (qA t6 (qA t7 (qA B0 (qA C0 du)))))
   clear t5 t6 t7 B0 C0 A;rintro A H3 ⟨g3,n3,rx,t4,t5,t6,t7,B0,C0⟩;refine qG (qA ae (qA t4 (qA B0 (qA rx (qA n3 (qA fl (qA du tQ))))))) fun K hK=>?_;refine WE.con (py H3 x) fun w H4 g4 hw=>?_;subst hw;have rx:H4.get H1.nx=some (.arr (gpC x) 181 0 0):=by rw[g4.get _ n3 zB2];exact rx
   have n4:H1.nx<H4.nx:=zA0 n3 g4.nx;have g4':=g1.gr (g3.gr g4);cases Z':pX x with
   | true=>
    rw[Z',Bool.true_or,Bool.true_or] at hr;refine qS (qA ae B0) ?_;refine hK _ _ ?_;clear hK K;refine qY ?_;refine qW B0 ?_;exact q4 _ _ (k4 _ _ (fin true _ _ qp (qd C0) g4' hr))
   | false=>
    rw[Z',Bool.false_or] at hr;refine qS (qA ae (qA B0 (qA t4 (qA rx (qA n4 (qA du (qA mh jd))))))) ?_;refine hK _ _ ?_;clear hK K;cases hbr:x.2.2 with
    | true=>
     rw[hbr,Bool.true_or] at hr;refine qY ?_;refine qW B0 ?_;exact q4 _ _ (k4 _ _ (fin true _ _ qp (qd C0) g4' hr))
    | false=>
     rw[hbr,Bool.false_or] at hr;refine qY ?_;refine qW B0 ?_;refine q1 _ _ ?_;refine qW (qA B0 (qA t7 Q1)) ?_;refine ⟨l.length - (i+1),by omega,i+1,rfl,D0,g4',hr,?_,?_,?_,?_,?_⟩
     ·simp only[aa,Nat.reduceEqDiff,reduceIte,t5]
     ·simp only[aa,Nat.reduceEqDiff,reduceIte,t6]
     ·simp only[aa,Nat.reduceEqDiff,reduceIte]
     ·simp only[ao,B0]
     simp only[ai,C0]
  clear hx hy Kx Ky;have S1:i=l.length:=by omega
  rw[S1,List.drop_length] at hr;refine qW B0 ?_;refine k2 _ _ ?_;refine qW B0 ?_;exact fin false _ _ qp (qd C0) g1 hr
 simp only[aa,Nat.reduceEqDiff,reduceIte,ao,ai,and_self,true_and];exact ⟨rfl,trivial⟩
def Lz (l:List Gp) (s:List UInt8):Bool:=l.any fun x=>x.2.1==s
theorem SC {E:Env} {r:Option Nat} {z:Code} {A:ab} {H:Hp} {Q:aD→ab→Hp→Prop} {i:Nat} (h:R1 E r z A H Q):R1 E r (.seq (.label i) z) A H Q:=R1.seq ⟨0,_,_,_,rfl,h⟩
def Uf (acc:List Gp):Bool:=acc.getLast?.any pX
def eE (less:Bool):List Gp→List Gp→Int
 | _,[]=>0
 | acc,x::l=>
  if pX x=true then
   if less=true then 24 else if Uf acc=true then 5 else eE less (acc++[x]) l
  else if nmB x.2.1=false then 20 else if x.1<1∨(99:Int)<x.1 then 21 else if Lz acc x.2.1=true then 22 else if (less&&x.2.2)=true then 24 else eE less (acc++[x]) l
theorem Ly {l:List Gp} {i:Nat} {y:Gp} (hi:0<i) (hy:l[i - 1]?=some y):Uf (l.take i)=pX y:=by
 have h:(l.take i).getLast?=some y:=by
  have D0:=(List.getElem?_eq_some_iff.1 hy).1;rw[List.getLast?_eq_getElem?,List.length_take,Nat.min_eq_left (by omega),List.getElem?_take,zB0 (by omega)];exact hy
 unfold Uf;rw[h];rfl
theorem lC (H:Hp) (v:AC) (l:List Gp) (less:Bool) (hv:aO H v l) (hL:l.length≤1000000):
  Con E2 117 [.one v,.one (.b less)] H (fun _=>False) fun r _=>r=.one (.i .i64 (eE less [] l)):=by
 refine Con.of rfl fun lg=>?_;have hv:aO ⟨H.t,H.nx,lg⟩ v l:=hv;generalize (⟨H.t,H.nx,lg⟩:Hp)=H at hv ⊢;refine C1.body (E:=E2) (nt:=69) (res:=[.tmp 4]) Tryz.func117 rfl rfl rfl rfl rfl fun tm A0=>?_;have h0:=A0 0 _ rfl;have h1:=A0 1 _ rfl;clear A0;have fin:∀ (e:Int) (A:ab) (H3:Hp),slot A.tm 4=.one (.i .i64 e)→A.dfr=[]→Gr H H3→e=eE less [] l→∃ w H4,aC E2 [.tmp 4] (.ret,A,H3)=.ok [(w,H4)]∧Gr H H4∧∀ _:List Nat,w=.one (.i .i64 (eE less [] l)):=fun e A H3 h1 h2 h3 h4=>⟨_,H3,aj (.i .i64 e) (.inr rfl) h2 h1,h3,fun _=>by rw[h4]⟩;generalize E0:eE less [] l=r0 at fin;refine qW (qA ae (qA h0 (qA dR (qA hv.len hv.lt)))) ?_;refine R1.scope (SC ?_);refine qW (qA ae (qA h0 (qA dR (qA hv.len hv.lt)))) ?_;refine R1.aK fun K k1 k2 k3 k4=>?_;refine R1.loop (fun k A H1=>∃ i:Nat,k=l.length - i∧i≤l.length∧Gr H H1∧eE less (l.take i) (l.drop i)=r0∧slot A.tm 0=.one v∧slot A.tm 1=.one (.b less)∧slot A.tm 9=.one v∧slot A.tm 10=.one (.i .i64 (l.length:Int))∧slot A.tm 11=.one (.i .i64 (i:Int))∧A.nt=69∧A.dfr=[]) ?_ l.length
  ⟨0,rfl,Nat.zero_le _,Fr.refl _,E0,?_⟩
 ·clear h0 h1 tm;rintro k A H1 ⟨i,rfl,hi,g1,hr,t0,t1,t9,t10,t11,B0,C0⟩;have Y1:=hv.gr g1;refine qW (qA ae (qA t10 (qA t11 B0))) ?_;refine qE fun Kx Ky hx hy=>?_;refine dV (fun hc=>hx ?_) (fun hc=>hy ?_)
  ·clear hx hy Kx Ky;have D0:i<l.length:=by omega
   obtain ⟨id,g,off,cells,rfl,hid,R0,J0⟩:=Y1.open (by omega);have ex:=zB4 D0;have O0:=zC1 D0;have Z0:=zC2 D0;generalize l[i]=x at ex O0 Z0;have K0:=J0 i x ex;have Q1:=zC0 i (by omega);rw[O0,eE] at hr;refine qV ?_;refine R1.aK fun K2 q1 q2 q3 q4=>?_;refine qG (qA ae (qA t9 (qA t11 (qA B0 (qA eS (qA fl (qA qx (qA mc (qA (ixC D0) (qA hid (qA R0 (qA K0.all (qA K0.le du))))))))))))) fun K hK=>?_;refine hK _ _ ?_;clear hK K;refine R1.gen (fun A3 H3=>Gr H1 H3∧H1.nx<H3.nx∧H3.get H1.nx=some (.arr (gpC x) 181 0 0)∧slot A3.tm 0=.one (.o (.sl id g off l.length 3))∧slot A3.tm 1=.one (.b less)∧slot A3.tm 5=.one (.i .i64 (i:Int))∧slot A3.tm 6=.one (.o (.ptr H1.nx 0 0 3))∧slot A3.tm 9=.one (.o (.sl id g off l.length 3))∧slot A3.tm 10=.one (.i .i64 (l.length:Int))∧slot A3.tm 11=.one (.i .i64 (i:Int))∧A3.nt=69∧A3.dfr=[])
    ⟨((Fr.refl _).new _).mod _ (.inl (zA1 _)),?_⟩ ?_
   ·exact qZ (qA t0 (qA t1 (qA t9 (qA t10 (qA t11 (qA B0 (qA C0 du)))))))
   clear t0 t1 t9 t10 t11 B0 C0 A;rintro A H3 ⟨g3,n3,rx,t0,t1,t5,t6,t9,t10,t11,B0,C0⟩;have next:∀ (A2:ab) (H2:Hp),Gr H3 H2→eE less (l.take (i+1)) (l.drop (i+1))=r0→slot A2.tm 0=slot A.tm 0→slot A2.tm 1=slot A.tm 1→slot A2.tm 9=slot A.tm 9→slot A2.tm 10=slot A.tm 10→slot A2.tm 11=slot A.tm 11→A2.nt=69→A2.dfr=[] →
     K2 .normal A2 H2∧K2 (.exit 1) A2 H2:=by
    intro A2 H2 g2 hr s0 s1 s9 s10 s11 hn hd;have g2':Gr H H2:=g1.gr (g3.gr g2);rw[t0] at s0;rw[t1] at s1;rw[t9] at s9;rw[t10] at s10;rw[t11] at s11;refine ⟨q1 _ _ ?_,q2 _ _ ?_⟩
    ·refine qW (qA hn (qA s11 Q1)) ?_;refine ⟨l.length - (i+1),by omega,i+1,rfl,D0,g2',hr,?_,?_,?_,?_,?_,?_,?_⟩
     ·simp only[aa,Nat.reduceEqDiff,reduceIte,s0]
     ·simp only[aa,Nat.reduceEqDiff,reduceIte,s1]
     ·simp only[aa,Nat.reduceEqDiff,reduceIte,s9]
     ·simp only[aa,Nat.reduceEqDiff,reduceIte,s10]
     ·simp only[aa,Nat.reduceEqDiff,reduceIte]
     ·simp only[ao,hn]
     simp only[ai,hd]
    refine qW (qA hn (qA s11 Q1)) ?_;refine ⟨l.length - (i+1),by omega,i+1,rfl,D0,g2',hr,?_,?_,?_,?_,?_,?_,?_⟩
    ·simp only[aa,Nat.reduceEqDiff,reduceIte,s0]
    ·simp only[aa,Nat.reduceEqDiff,reduceIte,s1]
    ·simp only[aa,Nat.reduceEqDiff,reduceIte,s9]
    ·simp only[aa,Nat.reduceEqDiff,reduceIte,s10]
    ·simp only[aa,Nat.reduceEqDiff,reduceIte]
    ·simp only[ao,hn]
    simp only[ai,hd]
   clear q1 q2;rw[←Z0] at hr;refine R1.aK fun K3 p1 p2 p3 p4=>?_;refine qG (qA ae (qA t6 (qA B0 (qA rx (qA n3 (qA fl (qA du tQ))))))) fun K hK=>?_;refine WE.con (py H3 x) fun w H4 g4 hw=>?_;subst hw;have rx4:H4.get H1.nx=some (.arr (gpC x) 181 0 0):=by rw[g4.get _ n3 zB2];exact rx
   have n4:H1.nx<H4.nx:=zA0 n3 g4.nx;have g4':=g1.gr (g3.gr g4);cases Z':pX x with
   | true=>
    rw[zB0 Z'] at hr;refine qS (qA ae (qA B0 t1)) ?_;refine hK _ _ ?_;clear hK K;cases less with
    | true=>
     rw[zB0 rfl] at hr;refine qY ?_;refine qW B0 ?_;exact p4 _ _ (q4 _ _ (k4 _ _ (fin 24 _ _ qp (qd C0) g4' hr)))
    | false=>
     rw[zB1 zA8] at hr;refine qY ?_;refine qG (qA ae (qA t6 (qA B0 (qA rx4 (qA n4 (qA fl (qA du tQ))))))) fun K hK=>?_;refine WE.con (py H4 x) fun w H5 g5 hw=>?_;subst hw;have g35:Gr H3 H5:=g4.gr g5;have g5':Gr H H5:=g4'.gr g5;refine qS (qA ae (qA B0 Z')) ?_;refine hK _ _ ?_;clear hK K;refine qY ?_;by_cases E4:i=0
     ·have c0:((0:Int)<(i:Int))=False:=eq_false (by omega);rw[E4,List.take_zero,zB1 (by exact zA8),←E4] at hr;refine qW (qA ae (qA t5 (qA B0 c0))) ?_;refine qY ?_;refine qV ?_;exact p3 1 _ _ (by decide) (next _ _ g35 hr qp qp qp qp qp (by simp only[ao,B0]) (qd C0)).2
     have c0:((0:Int)<(i:Int))=True:=eq_true (by omega);have G5:i - 1<l.length:=by omega
     have ey:l[i - 1]?=some l[i - 1]:=zB4 G5;have hgpp:=Ly (by omega) ey;generalize l[i - 1]=y at ey hgpp;have F1:=J0 (i - 1) y ey;have y5:IntKind.i64.wrap ((i:Int) - 1)=((i - 1:Nat):Int):=by rw[bx (by omega) (by omega)];omega
     have j_:id<H5.nx:=zA0 hid (g3.gr g35).nx;have hgr5:rowOf (H5.get id) g=some cells:=by rw[(g3.gr g35).get _ hid zB2];exact R0
     rw[hgpp] at hr;refine qG (qA ae (qA t0 (qA t5 (qA B0 (qA c0 (qA y5 (qA eS (qA fl (qA (ixC G5) (qA j_ (qA hgr5 (qA F1.all (qA F1.le (qA du tQ)))))))))))))) fun K hK=>?_;refine WE.con (py H5 y) fun w H6 g6 hw=>?_;subst hw;have g36:Gr H3 H6:=g35.gr g6;have g6':Gr H H6:=g5'.gr g6;cases hgy:pX y with
     | true=>
      rw[hgy,zB0 rfl] at hr;refine qS (qA ae B0) ?_;refine hK _ _ ?_;clear hK K;refine qY ?_;refine qW B0 ?_;exact p4 _ _ (q4 _ _ (k4 _ _ (fin 5 _ _ qp (qd C0) g6' hr)))
     | false=>
      rw[hgy,zB1 zA8] at hr;refine qS (qA ae B0) ?_;refine hK _ _ ?_;clear hK K;refine qY ?_;refine qV ?_;exact p3 1 _ _ (by decide) (next _ _ g36 hr qp qp qp qp qp (by simp only[ao,B0]) (qd C0)).2
   | false=>
    rw[zB1 (by rw[Z'];exact zA8)] at hr;refine qS (qA ae (qA B0 t1)) ?_;refine hK _ _ ?_;clear hK K;refine qY ?_;refine qG (qA ae (qA t6 (qA B0 (qA rx4 (qA n4 (qA fl (qA du tQ))))))) fun K hK=>?_;refine WE.con (py H4 x) fun w H5 g5 hw=>?_;subst hw;have rx5:H5.get H1.nx=some (.arr (gpC x) 181 0 0):=by rw[g5.get _ n4 zB2];exact rx4
    have n5:H1.nx<H5.nx:=zA0 n4 g5.nx;have g35:Gr H3 H5:=g4.gr g5;have g5':Gr H H5:=g4'.gr g5;refine qS (qA ae (qA B0 Z')) ?_;refine hK _ _ ?_;clear hK K;refine qY ?_;refine qG (qA ae (qA t6 (qA B0 (qA rx5 (qA n5 (qA jA (qA aT (qA du dP)))))))) fun K hK=>?_;refine WE.fh (ju x.2.1) fun H6 g6 nn6 e6=>?_;have rx6:H6.get H1.nx=some (.arr (gpC x) 181 0 0):=(e6 _).trans rx5;have n6:H1.nx<H6.nx:=by rw[nn6];exact n5
    have g36:Gr H3 H6:=g35.gr g6;have g6':Gr H H6:=g5'.gr g6;cases M7:nmB x.2.1 with
    | false=>
     rw[zB0 M7] at hr;refine qS (qA ae B0) ?_;refine hK _ _ ?_;clear hK K;refine qY ?_;refine qW B0 ?_;exact p4 _ _ (q4 _ _ (k4 _ _ (fin 20 _ _ qp (qd C0) g6' hr)))
    | true=>
     rw[zB1 (by rw[M7];decide)] at hr;refine qS (qA ae B0) ?_;refine hK _ _ ?_;clear hK K;refine qY ?_;by_cases B':x.1<1
     ·have c1:(x.1<1)=True:=eq_true B';rw[zB0 (.inl B')] at hr;refine qW (qA ae (qA t6 (qA B0 (qA rx6 (qA n6 (qA im (qA bu (qA du c1)))))))) ?_;refine qY ?_;refine qW B0 ?_;exact p4 _ _ (q4 _ _ (k4 _ _ (fin 21 _ _ qp (qd C0) g6' hr)))
     have c1:(x.1<1)=False:=eq_false B';by_cases J8:(99:Int)<x.1
     ·have c2:((99:Int)<x.1)=True:=eq_true J8;rw[zB0 (.inr J8)] at hr;refine qW (qA ae (qA t6 (qA B0 (qA rx6 (qA n6 (qA im (qA bu (qA du (qA c1 c2))))))))) ?_;refine qY ?_;refine qW B0 ?_;exact p4 _ _ (q4 _ _ (k4 _ _ (fin 21 _ _ qp (qd C0) g6' hr)))
     have c2:((99:Int)<x.1)=False:=eq_false J8;rw[zB1 (fun h=>h.elim B' J8)] at hr;refine qW (qA ae (qA t6 (qA B0 (qA rx6 (qA n6 (qA im (qA bu (qA du (qA c1 c2))))))))) ?_;refine qY ?_;refine qW B0 ?_;refine p1 _ _ ?_;have hid6:id<H6.nx:=zA0 hid (g3.gr g36).nx;have hgr6:rowOf (H6.get id) g=some cells:=by rw[(g3.gr g36).get _ hid zB2];exact R0
     generalize hrb:Lz (l.take i) x.2.1=rb at hr;have R3:(l.take i).length=i:=by rw[List.length_take];omega
     refine qG (qA ae (qA t0 (qA t5 (qA B0 (qA eS (qA dR (qA (slH (Nat.le_of_lt D0)) hid6))))))) fun K hK=>?_;refine hK _ _ ?_;clear hK K;refine R1.aK fun K4 u1 u2 u3 u4=>?_;refine R1.loop (fun k A2 H2=>∃ j:Nat,k=i - j∧j≤i∧Gr H6 H2∧Lz ((l.take i).drop j) x.2.1=rb∧slot A2.tm 0=.one (.o (.sl id g off l.length 3))∧slot A2.tm 1=.one (.b less)∧slot A2.tm 6=.one (.o (.ptr H1.nx 0 0 3))∧slot A2.tm 9=.one (.o (.sl id g off l.length 3))∧slot A2.tm 10=.one (.i .i64 (l.length:Int))∧slot A2.tm 11=.one (.i .i64 (i:Int))∧slot A2.tm 51=.one (.o (.sl id g off i 3))∧slot A2.tm 52=.one (.i .i64 (i:Int))∧slot A2.tm 53=.one (.i .i64 (j:Int))∧A2.nt=69∧A2.dfr=[]) ?_ i
      ⟨0,rfl,Nat.zero_le _,Fr.refl _,by rw[List.drop_zero];exact hrb,?_⟩
     ·rintro k A2 H2 ⟨j,rfl,hj,g2,X0,s0,s1,s6,s9,s10,s11,s51,s52,s53,hn,hd⟩;have rx2:H2.get H1.nx=some (.arr (gpC x) 181 0 0):=by rw[g2.get _ n6 zB2];exact rx6
      have n2:H1.nx<H2.nx:=zA0 n6 g2.nx;have hid2:id<H2.nx:=zA0 hid6 g2.nx;have hgr2:rowOf (H2.get id) g=some cells:=by rw[g2.get _ hid6 zB2];exact hgr6
      have g2':Gr H H2:=g6'.gr g2;refine qW (qA ae (qA s52 (qA s53 hn))) ?_;refine qE fun Kx Ky hx hy=>?_;refine dV (fun hc=>hx ?_) (fun hc=>hy ?_)
      ·clear hx hy Kx Ky;have hjt:j<i:=by omega
       have hjt':j<(l.take i).length:=by omega
       have B9:(l.take i).drop j=(l.take i)[j]::(l.take i).drop (j+1):=List.drop_eq_getElem_cons hjt';have ey:l[j]?=some (l.take i)[j]:=by rw[List.getElem_take];exact zB4 (by omega)
       generalize (l.take i)[j]=y at B9 ey;have F1:=J0 j y ey;have hw4:=zC0 j (by omega);rw[B9,Lz,List.any_cons] at X0;refine qV ?_;refine R1.aK fun K5 w1 w2 w3 w4=>?_;refine qG (qA ae (qA s51 (qA s53 (qA hn (qA eS (qA fl (qA qx (qA mc (qA (ixC hjt) (qA hid2 (qA hgr2 (qA F1.all (qA F1.le du))))))))))))) fun K hK=>?_;refine hK _ _ ?_;clear hK K;refine R1.gen (fun A3 H7=>Gr H2 H7∧H2.nx<H7.nx∧H7.get H2.nx=some (.arr (gpC y) 181 0 0)∧slot A3.tm 8=.one (.o (.ptr H2.nx 0 0 3))∧slot A3.tm 0=.one (.o (.sl id g off l.length 3))∧slot A3.tm 1=.one (.b less)∧slot A3.tm 6=.one (.o (.ptr H1.nx 0 0 3))∧slot A3.tm 9=.one (.o (.sl id g off l.length 3))∧slot A3.tm 10=.one (.i .i64 (l.length:Int))∧slot A3.tm 11=.one (.i .i64 (i:Int))∧slot A3.tm 51=.one (.o (.sl id g off i 3))∧slot A3.tm 52=.one (.i .i64 (i:Int))∧slot A3.tm 53=.one (.i .i64 (j:Int))∧A3.nt=69∧A3.dfr=[])
        ⟨((Fr.refl _).new _).mod _ (.inl (zA1 _)),?_⟩ ?_
       ·exact qZ (qA s0 (qA s1 (qA s6 (qA s9 (qA s10 (qA s11 (qA s51 (qA s52 (qA s53 (qA hn (qA hd du)))))))))))
       clear s0 s1 s6 s9 s10 s11 s51 s52 s53 hn hd A2;rintro A2 H7 ⟨g7,n7,ry,s8,s0,s1,s6,s9,s10,s11,s51,s52,s53,hn,hd⟩;have rx7:H7.get H1.nx=some (.arr (gpC x) 181 0 0):=by rw[g7.get _ n2 zB2];exact rx2
       have n17:H1.nx<H7.nx:=zA0 n2 g7.nx;have g7':Gr H H7:=g2'.gr g7;cases cs:(y.2.1==x.2.1) with
       | true=>
        rw[cs,Bool.true_or] at X0;rw[←X0,zB0 rfl] at hr;refine qW (qA ae (qA s8 (qA s6 (qA hn (qA ry (qA n7 (qA rx7 (qA n17 (qA du (qA jA aT)))))))))) ?_;refine qE fun Kx Ky hx hy=>?_;rw[cQ,cs];refine hx ?_;clear hx hy Kx Ky;refine qW hn ?_;exact w4 _ _ (u4 _ _ (q4 _ _ (k4 _ _ (fin 22 _ _ qp (by simp only[ai,hd]) g7' hr))))
       | false=>
        rw[cs,Bool.false_or] at X0;refine qW (qA ae (qA s8 (qA s6 (qA hn (qA ry (qA n7 (qA rx7 (qA n17 (qA du (qA jA aT)))))))))) ?_;refine qE fun Kx Ky hx hy=>?_;rw[cQ,cs];refine hy ?_;clear hx hy Kx Ky;refine qW hn ?_;refine w1 _ _ ?_;refine qW (qA hn (qA s53 hw4)) ?_;refine ⟨i - (j+1),by omega,j+1,rfl,hjt,g2.gr g7,X0,?_,?_,?_,?_,?_,?_,?_,?_,?_,?_,?_⟩
        ·simp only[aa,Nat.reduceEqDiff,reduceIte,s0]
        ·simp only[aa,Nat.reduceEqDiff,reduceIte,s1]
        ·simp only[aa,Nat.reduceEqDiff,reduceIte,s6]
        ·simp only[aa,Nat.reduceEqDiff,reduceIte,s9]
        ·simp only[aa,Nat.reduceEqDiff,reduceIte,s10]
        ·simp only[aa,Nat.reduceEqDiff,reduceIte,s11]
        ·simp only[aa,Nat.reduceEqDiff,reduceIte,s51]
        ·simp only[aa,Nat.reduceEqDiff,reduceIte,s52]
        ·simp only[aa,Nat.reduceEqDiff,reduceIte]
        ·simp only[ao,hn]
        simp only[ai,hd]
      clear hx hy Kx Ky;have H_:(l.take i).drop j=[]:=List.drop_eq_nil_of_le (by omega);rw[H_] at X0;rw[←X0,zB1 (by exact zA8)] at hr;refine qW hn ?_;refine u2 _ _ ?_;cases less with
      | false=>
       rw[zB1 (by exact zA8)] at hr;refine qW (qA ae (qA s1 hn)) ?_;refine qY ?_;refine qW hn ?_;exact (next _ _ (g36.gr g2) hr (by simp only[aa,Nat.reduceEqDiff,reduceIte,s0,t0]) (by simp only[aa,Nat.reduceEqDiff,reduceIte,s1,t1]) (by simp only[aa,Nat.reduceEqDiff,reduceIte,s9,t9]) (by simp only[aa,Nat.reduceEqDiff,reduceIte,s10,t10]) (by simp only[aa,Nat.reduceEqDiff,reduceIte,s11,t11]) (by simp only[ao,hn]) (by simp only[ai,hd])).1
      | true=>
       cases hbr:x.2.2 with
       | true=>
        rw[hbr,zB0 (by rfl)] at hr;refine qW (qA ae (qA s1 (qA s6 (qA hn (qA rx2 (qA n2 (qA du (qA mh (qA jd hbr))))))))) ?_;refine qY ?_;refine qW hn ?_;exact q4 _ _ (k4 _ _ (fin 24 _ _ qp (by simp only[ai,hd]) g2' hr))
       | false=>
        rw[hbr,zB1 (by exact zA8)] at hr;refine qW (qA ae (qA s1 (qA s6 (qA hn (qA rx2 (qA n2 (qA du (qA mh (qA jd hbr))))))))) ?_;refine qY ?_;refine qW hn ?_;exact (next _ _ (g36.gr g2) hr (by simp only[aa,Nat.reduceEqDiff,reduceIte,s0,t0]) (by simp only[aa,Nat.reduceEqDiff,reduceIte,s1,t1]) (by simp only[aa,Nat.reduceEqDiff,reduceIte,s9,t9]) (by simp only[aa,Nat.reduceEqDiff,reduceIte,s10,t10]) (by simp only[aa,Nat.reduceEqDiff,reduceIte,s11,t11]) (by simp only[ao,hn]) (by simp only[ai,hd])).1
     simp only[aa,Nat.reduceEqDiff,reduceIte,ao,ai,t0,t1,t6,t9,t10,t11,B0,C0,and_self,true_and];exact ⟨rfl,trivial⟩
  clear hx hy Kx Ky;have S1:i=l.length:=by omega
  rw[S1,List.drop_length,eE] at hr;refine qW B0 ?_;refine k2 _ _ ?_;refine qW B0 ?_;exact fin 0 _ _ qp (qd C0) g1 hr
 simp only[aa,Nat.reduceEqDiff,reduceIte,ao,ai,h0,h1,and_self,true_and];exact ⟨rfl,trivial⟩
abbrev Nm:=List Gp×List Gp
def cC (x:Nm):Int:=
 if (24:Int)<x.1.length∨(24:Int)<x.2.length then 3 else if x.1.length=0 then 5 else
 if eE false [] x.1≠0 then eE false [] x.1 else if eE true [] x.2≠0 then eE true [] x.2 else
 if (0<x.2.length∧jf x.1=true) then 24 else 0
theorem hG (H:Hp) (u w:AC) (x:Nm) (hu:aO H u x.1) (hw:aO H w x.2):
  Con E2 65 [.agg [u,w]] H (fun _=>False) fun r _=>r=.one (.i .i64 (cC x)):=by
 refine Con.of rfl fun lg=>?_;have hu:aO ⟨H.t,H.nx,lg⟩ u x.1:=hu;have hw:aO ⟨H.t,H.nx,lg⟩ w x.2:=hw;generalize (⟨H.t,H.nx,lg⟩:Hp)=H at hu hw ⊢;refine C1.body (E:=E2) (nt:=40) (res:=[.tmp 2]) Tryz.func65 rfl rfl rfl rfl rfl fun tm A0=>?_;have h0:=A0 0 _ rfl;clear A0;have fin:∀ (e:Int) (A:ab) (H3:Hp),slot A.tm 2=.one (.i .i64 e)→A.dfr=[]→Gr H H3→e=cC x→∃ w H4,aC E2 [.tmp 2] (.ret,A,H3)=.ok [(w,H4)]∧Gr H H4∧∀ _:List Nat,w=.one (.i .i64 (cC x)):=fun e A H3 h1 h2 h3 h4=>⟨_,H3,aj (.i .i64 e) (.inr rfl) h2 h1,h3,fun _=>by rw[h4]⟩;generalize E0:cC x=r0 at fin;unfold cC at E0;refine qG (qA ae h0) fun K hK=>?_;refine hK _ _ ?_;clear hK K;refine R1.gen (fun A1 H1=>Gr H H1∧H.nx<H1.nx∧H1.get H.nx=some (.arr [u,w] 66 0 0)∧slot A1.tm 1=.one (.o (.ptr H.nx 0 0 2))∧A1.nt=40∧A1.dfr=[])
  ⟨(Fr.refl _).new _,?_⟩ ?_
 ·exact qZ h0
 rintro A1 H1 ⟨g1,n1,rx,t1,B0,C0⟩;clear h0 tm;have B2:=hu.gr g1;have Q8:=hw.gr g1;by_cases h24:(24:Int)<x.1.length
 ·have c24:((24:Int)<x.1.length)=True:=eq_true h24;rw[zB0 (.inl h24)] at E0;refine qW (qA ae (qA t1 (qA B0 (qA rx (qA n1 (qA cJ (qA cT (qA dR (qA B2.len (qA B2.lt c24)))))))))) ?_;refine qY ?_;refine qW B0 ?_;exact fin 3 _ _ qp (qd C0) g1 E0
 have c24:((24:Int)<x.1.length)=False:=eq_false h24;by_cases h25:(24:Int)<x.2.length
 ·have c25:((24:Int)<x.2.length)=True:=eq_true h25;rw[zB0 (.inr h25)] at E0;refine qW (qA ae (qA t1 (qA B0 (qA rx (qA n1 (qA cJ (qA dL (qA cT (qA dR (qA B2.len (qA B2.lt (qA Q8.len (qA Q8.lt (qA c24 c25)))))))))))))) ?_;refine qY ?_;refine qW B0 ?_;exact fin 3 _ _ qp (qd C0) g1 E0
 have c25:((24:Int)<x.2.length)=False:=eq_false h25;rw[zB1 (fun h=>h.elim h24 h25)] at E0;refine qW (qA ae (qA t1 (qA B0 (qA rx (qA n1 (qA cJ (qA dL (qA cT (qA dR (qA B2.len (qA B2.lt (qA Q8.len (qA Q8.lt (qA c24 c25)))))))))))))) ?_;refine qY ?_;by_cases hz:x.1.length=0
 ·have cz:((x.1.length:Int)==0)=true:=by rw[hz];rfl
  rw[zB0 hz] at E0;refine qW (qA ae (qA t1 (qA B0 (qA rx (qA n1 (qA cJ (qA cT (qA dR (qA B2.len (qA B2.lt cz)))))))))) ?_;refine qY ?_;refine qW B0 ?_;exact fin 5 _ _ qp (qd C0) g1 E0
 have cz:((x.1.length:Int)==0)=false:=zB5 (by omega);rw[zB1 hz] at E0;refine qW (qA ae (qA t1 (qA B0 (qA rx (qA n1 (qA cJ (qA cT (qA dR (qA B2.len (qA B2.lt cz)))))))))) ?_;refine qY ?_;refine R1.aY ?_;refine qG (qA ae (qA t1 (qA B0 (qA rx (qA n1 (qA cJ (qA cT nq))))))) fun K hK=>?_;refine WE.con (lC H1 u x.1 false B2 (by omega)) fun r H2 g2 hr=>?_;subst hr;have rx2:H2.get H.nx=some (.arr [u,w] 66 0 0):=by rw[g2.get _ n1 zB2];exact rx
 have n2:H.nx<H2.nx:=zA0 n1 g2.nx;have g2':=g1.gr g2;refine qS (qA ae B0) ?_;refine hK _ _ ?_;clear hK K;generalize eE false [] x.1=e1 at E0 ⊢;by_cases R4:e1=0
 case neg=>
  have ce:(e1 != 0)=true:=bne_iff_ne.2 R4;rw[zB0 R4] at E0;refine qW (qA ae (qA B0 ce)) ?_;refine qE fun Kx Ky hx hy=>?_;refine dV (fun _=>hx ?_) (fun h=>absurd ce (by simpa using h));clear hx hy Kx Ky;refine qW B0 ?_;exact fin e1 _ _ qp (qd C0) g2' E0
 rw[zB1 (fun h=>h R4)] at E0;refine qW (qA ae (qA B0 R4)) ?_;refine qY ?_;refine R1.aY ?_;refine qG (qA ae (qA t1 (qA B0 (qA rx2 (qA n2 (qA dL (qA cT nq))))))) fun K hK=>?_;refine WE.con (lC H2 w x.2 true (Q8.gr g2) (by omega)) fun r H3 g3 hr=>?_;subst hr;have rx3:H3.get H.nx=some (.arr [u,w] 66 0 0):=by rw[g3.get _ n2 zB2];exact rx2
 have n3:H.nx<H3.nx:=zA0 n2 g3.nx;have g3':=g2'.gr g3;have P6:=(B2.gr g2).gr g3;have y5:=(Q8.gr g2).gr g3;refine qS (qA ae B0) ?_;refine hK _ _ ?_;clear hK K;generalize eE true [] x.2=e2 at E0 ⊢;by_cases I':e2=0
 case neg=>
  have ce:(e2 != 0)=true:=bne_iff_ne.2 I';rw[zB0 I'] at E0;refine qW (qA ae (qA B0 ce)) ?_;refine qE fun Kx Ky hx hy=>?_;refine dV (fun _=>hx ?_) (fun h=>absurd ce (by simpa using h));clear hx hy Kx Ky;refine qW B0 ?_;exact fin e2 _ _ qp (qd C0) g3' E0
 rw[zB1 (fun h=>h I')] at E0;refine qW (qA ae (qA B0 I')) ?_;refine qY ?_;refine R1.aY ?_;by_cases hp:0<x.2.length
 ·have cp:((0:Int)<x.2.length)=True:=eq_true (by omega);refine qG (qA ae (qA t1 (qA B0 (qA rx3 (qA n3 (qA cJ (qA dL (qA cT (qA dR (qA P6.lt (qA y5.len (qA y5.lt (qA cp qt))))))))))))) fun K hK=>?_;refine WE.con (oe H3 u x.1 P6 (by omega)) fun r H4 g4 hr=>?_;subst hr;have g4':=g3'.gr g4;refine qS (qA ae B0) ?_;refine hK _ _ ?_;clear hK K;cases hb:jf x.1 with
  | true=>
   rw[zB0 ⟨hp,hb⟩] at E0;refine qY ?_;refine qW B0 ?_;exact fin 24 _ _ qp (qd C0) g4' E0
  | false=>
   rw[zB1 (fun h=>by rw[hb] at h;cases h.2)] at E0;refine qY ?_;refine qW B0 ?_;exact fin 0 _ _ qp (qd C0) g4' E0
 have cp:((0:Int)<x.2.length)=False:=eq_false (by omega);rw[zB1 (fun h=>hp h.1)] at E0;refine qW (qA ae (qA t1 (qA B0 (qA rx3 (qA n3 (qA cJ (qA dL (qA cT (qA dR (qA P6.lt (qA y5.len (qA y5.lt cp)))))))))))) ?_;refine qY ?_;refine qW B0 ?_;exact fin 0 _ _ qp (qd C0) g3' E0
theorem Rf:al Tryz.prog 122=true:=by kernel_rfl
theorem pA {E:Env} {s s':Tmp} {t t':TypeId} {A:ab} {H H2:Hp} {e:aD} {id id' g g':Nat} {c c':AC} (ht:loadT E.P t=some (false,1)) (ht':loadT E.P t'=some (false,1)) (he:e=.normal∨e=.ret) (hd:closeAll H A.dfr=some H2)
  (hs:slot A.tm s=.one (.o (.ptr id g 0 1))) (X6:slot A.tm s'=.one (.o (.ptr id' g' 0 1))) (hg:rowOf (H2.get id) g=some [c]) (P2:rowOf (H2.get id') g'=some [c']):
  aC E [.cell s t,.cell s' t'] (e,A,H)=.ok [(.tup [(false,[c]),(false,[c'])],H2)]:=by
 have one:∀ (s:Tmp) (t:TypeId) (id g:Nat) (c:AC),loadT E.P t=some (false,1)→slot A.tm s=.one (.o (.ptr id g 0 1))→rowOf (H2.get id) g=some [c]→iv E.P (.cell s t) A.tm H2=some (false,[c]):=fun s t id g c ht hs hg=>by
  have e0:iv E.P (.cell s t)=match loadT E.P t with
    | some p=>fun tm h=>aw (tm.get s) none fun v=>ad.rec (motive:=fun _=>Option (Bool×List AC)) (fun v _=>fg v) (fun _=>none) (fun _ _=>none) (fun _ _=>none) (fun _=>none) (bT h p.1 p.2 v)
    | none=>fun _ _=>none:=rfl
  rw[e0,ht];show aw (A.tm.get s) none (fun v=>ad.rec (motive:=fun _=>Option (Bool×List AC)) (fun v _=>fg v) (fun _=>none) (fun _ _=>none) (fun _ _=>none) (fun _=>none) (bT H2 false 1 v))=_;rw[sJ hs];show ad.rec (motive:=fun _=>Option (Bool×List AC)) (fun v _=>fg v) (fun _=>none) (fun _ _=>none) (fun _ _=>none) (fun _=>none) (bT H2 false 1 (.one (.o (.ptr id g 0 1))))=_;rw[eV,hg,sL (zA1 _) (by simp)];rfl
 have key:(aw (closeAll H A.dfr) (R.bad "marks") fun h2=>aw (bc E.P [.cell s t,.cell s' t'] A.tm h2) (.bad "results") fun l=>.ok [(cY l,h2)])=.ok [(.tup [(false,[c]),(false,[c'])],H2)]:=by
  rw[hd];have hr:bc E.P [.cell s t,.cell s' t'] A.tm H2=some [(false,[c]),(false,[c'])]:=by
   show aw (iv E.P (.cell s t) A.tm H2) none (fun x=>aw (aw (iv E.P (.cell s' t') A.tm H2) none fun x=>aw (some []) none fun l=>some (x::l)) none fun l=>some (x::l))=_;rw[one s t id g c ht hs hg,one s' t' id' g' c' ht' X6 P2];rfl
  show aw (bc E.P [.cell s t,.cell s' t'] A.tm H2) (R.bad "results") (fun l=>R.ok [(cY l,H2)])=_
  rw[hr];rfl
 rcases he with rfl|rfl
 ·exact key
 exact key
def Hh:List (Pr×Int)→List UInt8→Int×Int
 | [],_=>(0,11)
 | y::ys,s=>if y.1.1=s then (y.2,0) else Hh ys s
def fO (n:List UInt8) (us:List Pr) (s:List UInt8):Int×Int:=if aR n us≠0 then (0,aR n us) else Hh (yv 1 us) s
theorem Mh (H:Hp) (n:List UInt8) (u:AC) (us:List Pr) (s:List UInt8) (hu:SlP H u us):
  Con E2 122 [.agg [.o (.str n),u],.one (.o (.str s))] H (fun _=>False) fun r _=>r=.tup [(false,[.i .i64 (fO n us s).1]),(false,[.i .i64 (fO n us s).2])]:=by
 refine Con.of rfl fun lg=>?_;have hu:SlP ⟨H.t,H.nx,lg⟩ u us:=hu;generalize (⟨H.t,H.nx,lg⟩:Hp)=H at hu ⊢;refine C1.body (E:=E2) (nt:=23) (res:=[.cell 4 3,.cell 5 38]) Tryz.func122 rfl rfl rfl rfl rfl fun tm A0=>?_;have h0:=A0 0 _ rfl;have h1:=A0 1 _ rfl;clear A0;refine qG (qA ae (qA h0 (qA h1 (qA oR nF)))) fun K hK=>?_;refine hK _ _ ?_;clear hK K;have J2:∀ id∈(AV.one u).ids,id<H.nx:=hu.lt;refine R1.gen (fun A1 H1=>Gr H H1∧H.nx+3<H1.nx∧H1.get H.nx=some (.arr [.o (.str n),u] 97 0 0)∧H1.get (H.nx+1)=some (.arr [.o (.str s)] 9 0 0)∧H1.get (H.nx+1+1)=some (.arr [.i .i64 0] 3 0 0)∧H1.get (H.nx+1+1+1)=some (.arr [.i .i64 0] 38 0 0)∧slot A1.tm 2=.one (.o (.ptr H.nx 0 0 2))∧slot A1.tm 3=.one (.o (.ptr (H.nx+1) 0 0 1))∧slot A1.tm 4=.one (.o (.ptr (H.nx+1+1) 0 0 1))∧slot A1.tm 5=.one (.o (.ptr (H.nx+1+1+1) 0 0 1))∧A1.nt=23∧A1.dfr=[])
  ⟨((((Fr.refl _).new _).new _).new _).new _,?_⟩ ?_
 ·refine qT ?_;rw[aM (by show H.nx<H.nx+1+1+1;omega),aM (by show H.nx<H.nx+1+1;omega),aM (by show H.nx<H.nx+1;omega)];exact az rfl
 rintro A1 H1 ⟨g1,n1,r1,r2,r4,r5,t2,t3,t4,t5,B0,C0⟩;clear h0 h1 tm;have B2:SlP H1 u us:=hu.gr g1;obtain ⟨c1,M'⟩:∃ c,c=H.nx:=⟨_,rfl⟩;obtain ⟨c2,o8⟩:∃ c,c=H.nx+1:=⟨_,rfl⟩;obtain ⟨c4,hc4⟩:∃ c,c=H.nx+1+1:=⟨_,rfl⟩;obtain ⟨c5,hc5⟩:∃ c,c=H.nx+1+1+1:=⟨_,rfl⟩;rw[←hc5] at r5 t5;rw[←hc4] at r4 t4;rw[←o8] at r2 t3;rw[←M'] at r1 t2 J2;have o12:c1<c2:=by omega
 have o24:c2<c4:=by omega
 have o45:c4<c5:=by omega
 have o5:c5<H1.nx:=by omega
 have O8:H.nx≤c1:=by omega
 clear hc5 hc4 o8 n1;have l1:c1<H1.nx:=by omega
 have l2:c2<H1.nx:=by omega
 have l4:c4<H1.nx:=by omega
 have fin:∀ (e:aD) (A:ab) (H2 H3:Hp) (v w:Int),(e=.normal∨e=.ret)→closeAll H2 A.dfr=some H3→Gr H H3→slot A.tm 4=.one (.o (.ptr c4 0 0 1))→slot A.tm 5=.one (.o (.ptr c5 0 0 1))→H3.get c4=some (.arr [.i .i64 v] 3 0 0)→H3.get c5=some (.arr [.i .i64 w] 38 0 0)→(v,w)=fO n us s →
   ∃ w H4,aC E2 [.cell 4 3,.cell 5 38] (e,A,H2)=.ok [(w,H4)]∧Gr H H4∧∀ _:List Nat,w=.tup [(false,[.i .i64 (fO n us s).1]),(false,[.i .i64 (fO n us s).2])]:=fun e A H2 H3 v w he hd hg hs X6 hr L3 hv=>
  ⟨_,H3,pA (c:=.i .i64 v) (c':=.i .i64 w) bu pw he hd hs X6 (by rw[hr];exact bX (zA1 _) (zA1 _)) (by rw[L3];exact bX (zA1 _) (zA1 _)),hg,fun _=>by rw[←hv]⟩
 generalize E0:fO n us s=r0 at fin;unfold fO at E0;repeat refine R1.au ?_
 refine qG (qA ae (qA t2 (qA B0 (qA r1 (qA l1 (qA cW lA)))))) fun K hK=>?_;refine WE.con (jR H1 n u us B2) fun v H2 g2 hv=>?_;subst hv;have r1:H2.get c1=some (.arr [.o (.str n),u] 97 0 0):=by rw[g2.get _ l1 zB2];exact r1
 have r2:H2.get c2=some (.arr [.o (.str s)] 9 0 0):=by rw[g2.get _ l2 zB2];exact r2
 have r4:H2.get c4=some (.arr [.i .i64 0] 3 0 0):=by rw[g2.get _ l4 zB2];exact r4
 have r5:H2.get c5=some (.arr [.i .i64 0] 38 0 0):=by rw[g2.get _ o5 zB2];exact r5
 have o5:c5<H2.nx:=zA0 o5 g2.nx;have l1:c1<H2.nx:=by omega
 have l2:c2<H2.nx:=by omega
 have l4:c4<H2.nx:=by omega
 have G3:=B2.gr g2;have g2:=g1.gr g2;have hlen:=@iz n us;refine qS (qA ae B0) ?_;refine hK _ _ ?_;clear hK K;generalize aR n us=e0 at E0 hlen ⊢;by_cases N0:e0=0
 case neg=>
  have ce:(e0 != 0)=true:=bne_iff_ne.2 N0;rw[zB0 N0] at E0;refine qW (qA ae (qA B0 ce)) ?_;refine qE fun Kx Ky hx hy=>?_;refine dV (fun _=>hx ?_) (fun h=>absurd ce (by simpa using h));clear hx hy Kx Ky;repeat' first|refine R1.ret ?_|refine R1.exit ?_|refine R1.skip ?_|refine R1.rF ?_|refine R1.lO ?_|refine R1.au ?_|refine R1.aY ?_|refine R1.ja ?_|((first|refine R1.FE fun K hK=>?_|refine R1.oP fun K hK=>?_|refine R1.EY (by kernel_rfl) fun K hK=>?_|refine R1.AQ (by kernel_rfl) fun K hK=>?_);simp only[qB,ay,Nat.reduceLT,ae,t4,t5,B0,tw,dG,r4,r5,l4,o5,aq (Nat.ne_of_gt o45)];refine hK _ _ ?_;clear hK K)
  exact fin .ret _ _ _ 0 e0 (.inr rfl) (by simp only[ai,C0];rfl) ((g2.mod _ (.inl (by omega))).mod _ (.inl (by omega))) (by simp only[aa,Nat.reduceEqDiff,reduceIte,t4]) (by simp only[aa,Nat.reduceEqDiff,reduceIte,t5]) (by rw[aq (by omega)];exact ak rfl) (ak rfl) E0
 rw[zB1 (fun h=>h N0)] at E0;have hlen:=hlen N0;refine qW (qA ae (qA B0 N0)) ?_;refine qY ?_;refine R1.aY ?_;repeat refine R1.au ?_
 refine qG (qA ae (qA t2 (qA B0 (qA r1 (qA l1 (qA cW BO)))))) fun K hK=>?_;refine WE.con (xM H2 (.o (.str n)) u G3.lt) fun v H5 g5 ⟨hv,E',B_⟩=>?_;subst hv;refine qS (qA ae B0) ?_;refine hK _ _ ?_;clear hK K;refine R1.Hq (fun A4=>slot A4.tm 3=.one (.o (.ptr c2 0 0 1))∧slot A4.tm 4=.one (.o (.ptr c4 0 0 1))∧slot A4.tm 5=.one (.o (.ptr c5 0 0 1))∧slot A4.tm 15=.one (.o (.clo 170 [(H2.nx,0,0,2)]))∧A4.nt=23∧A4.dfr=[])
  ⟨by simp only[aa,Nat.reduceEqDiff,reduceIte,t3],by simp only[aa,Nat.reduceEqDiff,reduceIte,t4],by simp only[aa,Nat.reduceEqDiff,reduceIte,t5],by simp only[aa,Nat.reduceEqDiff,reduceIte],by simp only[ao,B0],by simp only[ai,C0]⟩ ?_
 clear t2 t3 t4 t5 B0 C0 A1;rintro A ⟨t3,t4,t5,t15,B0,C0⟩;have gg:Gr H H5:=g2.gr g5;have r2:H5.get c2=some (.arr [.o (.str s)] 9 0 0):=by rw[g5.get _ l2 zB2];exact r2
 have r4:H5.get c4=some (.arr [.i .i64 0] 3 0 0):=by rw[g5.get _ l4 zB2];exact r4
 have r5:H5.get c5=some (.arr [.i .i64 0] 38 0 0):=by rw[g5.get _ o5 zB2];exact r5
 have O6:SlP H5 u us:=G3.gr g5;obtain ⟨il,u9⟩:∃ i,i=H2.nx:=⟨_,rfl⟩;rw[←u9] at E' B_ t15 o5 l1 l2 l4;clear u9;generalize V6:yv 1 us=ys at E0;have hyl:ys.length≤us.length:=by rw[←V6];exact Bz 1 us
 refine R1.aK fun K k1 k2 k3 k4=>?_;refine R1.range (σ:=Unit) (g:=170) (caps:=[(il,0,0,2)]) (n:=ys.length) (ar:=yA ys) (D:=DL il u) (by simp only[Lk,t15]) zf (fun _=>rfl)
  (xB H5 il (.o (.str n)) u us B_ E' O6 (by omega) ys V6) (fun k hk=>by
   rcases hk with h|h
   ·omega
   exact Nat.lt_trans (J2 k h) (by omega)) (by rw[B0];rfl) (fun i _=>PL ys i)
  (fun i _ H6=>H6.get c2=some (.arr [.o (.str s)] 9 0 0)∧H6.get c4=some (.arr [.i .i64 0] 3 0 0)∧H6.get c5=some (.arr [.i .i64 0] 38 0 0)∧Hh (ys.drop i) s=r0∧H5.nx≤H6.nx)
  (fun e _ H6=>e=.ret∧H6.get c4=some (.arr [.i .i64 r0.1] 3 0 0)∧H6.get c5=some (.arr [.i .i64 r0.2] 38 0 0)∧H5.nx≤H6.nx)
  (fun _ k=>k=c4∨k=c5) ?_ ?_ ?_ () ?_ ?_ ?_ ?_
 ·rintro i _ H6 H7 ⟨a1,a2,a3,a4,a5⟩ hs;exact ⟨by rw[hs.get _ (by omega) (by omega)];exact a1,by rw[hs.get _ (by omega) (by omega)];exact a2,by rw[hs.get _ (by omega) (by omega)];exact a3,a4,zA2 a5 hs.nx⟩
 ·rintro e _ H6 H7 ⟨a1,a2,a3,a5⟩ hs;exact ⟨a1,by rw[hs.get _ (by omega) (by omega)];exact a2,by rw[hs.get _ (by omega) (by omega)];exact a3,zA2 a5 hs.nx⟩
 ·rintro i _ H6 k ⟨a1,a2,a3,a4,a5⟩ hk;have:k<H5.nx∧c1<k∧k<il:=by rcases hk with rfl|rfl <;> omega
  refine ⟨by omega,by omega,by omega,fun h=>?_⟩;rcases h with h|h
  ·omega
  have:=J2 k h;omega
 ·intro H6 g6 n6;exact ⟨by rw[g6.get _ (by omega) zB2];exact r2,by rw[g6.get _ (by omega) zB2];exact r4,by rw[g6.get _ (by omega) zB2];exact r5,by rw[List.drop_zero];exact E0,g6.nx⟩
 ·rintro i _ H6 hi ⟨a1,a2,a3,a4,a5⟩ n6;have hy:ys[i]?=some ys[i]:=zB4 hi;have O0:ys.drop i=ys[i]::ys.drop (i+1):=List.drop_eq_getElem_cons hi;generalize ys[i]=y at hy O0;rw[O0,Hh] at a4;rw[Pm hy];obtain ⟨x,yval⟩:=y;refine R1.Hq (fun A7=>slot A7.tm 3=.one (.o (.ptr c2 0 0 1))∧slot A7.tm 4=.one (.o (.ptr c4 0 0 1))∧slot A7.tm 5=.one (.o (.ptr c5 0 0 1))∧slot A7.tm 16=.agg (prC x)∧slot A7.tm 17=.one (.i .i64 yval)∧A7.nt=23∧A7.dfr=[]) ⟨?_,?_,?_,?_,?_,B0,rfl⟩ ?_
  ·show slot ((A.tm.set 16 _).set 17 _) 3=_;simp only[fi,Nat.reduceEqDiff,reduceIte,t3]
  ·show slot ((A.tm.set 16 _).set 17 _) 4=_;simp only[fi,Nat.reduceEqDiff,reduceIte,t4]
  ·show slot ((A.tm.set 16 _).set 17 _) 5=_;simp only[fi,Nat.reduceEqDiff,reduceIte,t5]
  ·show slot ((A.tm.set 16 _).set 17 _) 16=_;simp only[fi,Nat.reduceEqDiff,reduceIte]
  ·show slot ((A.tm.set 16 _).set 17 _) 17=_;simp only[fi,Nat.reduceEqDiff,reduceIte]
  rintro A7 ⟨u3,u4,u5,u16,u17,unt,udf⟩;refine qW (qA ae (qA u16 (qA u17 (qA unt (qA kH (qA mw dS)))))) ?_;refine ⟨rfl,((Fr.refl _).new _).mod _ (.inl (zA1 _)),fun H8 n8 s8=>?_⟩;have gu:H8.get H6.nx=some (.arr (prC x) 165 0 0):=by
   rw[s8.get _ (by show H6.nx<H6.nx+1;omega) (by omega)];exact ak rfl
  have keep:∀ k,k<H5.nx→H8.get k=H6.get k:=fun k hk=>by
   rw[s8.get _ (by show k<H6.nx+1;omega) (by omega),aq (by omega),aM (by omega)]
  have n8':H8.nx=H6.nx+1:=n8;have b2:H8.get c2=some (.arr [.o (.str s)] 9 0 0):=(keep c2 (by omega)).trans a1;have b4:H8.get c4=some (.arr [.i .i64 0] 3 0 0):=(keep c4 (by omega)).trans a2;have b5:H8.get c5=some (.arr [.i .i64 0] 38 0 0):=(keep c5 (by omega)).trans a3;have lu:H6.nx<H8.nx:=by omega
  have m2:c2<H8.nx:=by omega
  have m4:c4<H8.nx:=by omega
  have m5:c5<H8.nx:=by omega
  refine R1.sU fun K2 p1 p2 p3 p4=>?_;repeat refine R1.au ?_
  by_cases J5:x.1=s
  ·rw[zB0 J5] at a4;have cs:(x.1==s)=true:=beq_iff_eq.2 J5;refine qW (qA ae (qA u3 (qA unt (qA gu (qA lu (qA b2 (qA m2 (qA bM (qA aT dS))))))))) ?_;refine qE fun Kx Ky hx hy=>?_;rw[cQ,cs];refine hx ?_;clear hx hy Kx Ky;repeat' first|refine R1.ret ?_|refine R1.exit ?_|refine R1.skip ?_|refine R1.rF ?_|refine R1.lO ?_|refine R1.au ?_|refine R1.aY ?_|refine R1.ja ?_|((first|refine R1.FE fun K hK=>?_|refine R1.oP fun K hK=>?_|refine R1.EY (by kernel_rfl) fun K hK=>?_|refine R1.AQ (by kernel_rfl) fun K hK=>?_);simp only[qB,ay,Nat.reduceLT,ae,u4,u5,unt,tw,dG,b4,b5,m4,m5,aq (Nat.ne_of_gt o45)];refine hK _ _ ?_;clear hK K)
   refine p4 _ _ ⟨by simp only[ai,udf],((Fr.refl _).mod _ (.inr (.inl (.inl rfl)))).mod _ (.inr (.inl (.inr rfl))),(),fun h=>(by cases h),fun _=>⟨rfl,?_,?_,by show H5.nx≤H8.nx;omega⟩,fun k hk=>.inl hk⟩
   ·rw[aq (by omega),←a4];exact ak rfl
   rw[←a4];exact ak rfl
  rw[zB1 J5] at a4;have cs:(x.1==s)=false:=zB5 J5;refine qW (qA ae (qA u3 (qA unt (qA gu (qA lu (qA b2 (qA m2 (qA bM (qA aT dS))))))))) ?_;refine qE fun Kx Ky hx hy=>?_;rw[cQ,cs];refine hy ?_;clear hx hy Kx Ky;refine qV ?_;refine p1 _ _ ⟨by simp only[ai,udf],Fr.refl _,(),fun _=>⟨b2,b4,b5,a4,by omega⟩,fun h=>absurd rfl h,fun k hk=>.inl hk⟩
 ·rintro s' H6 ⟨a1,a2,a3,a4,a5⟩ n6 hd6 N5 T6;have g6:Gr H H6:=gg.then N5 fun k hk=>.inl (by rcases hk with rfl|rfl <;> omega);have m4:c4<H6.nx:=by omega
  have m5:c5<H6.nx:=by omega
  rw[List.drop_length,Hh] at a4;refine k1 _ _ ?_;refine R1.Hq (fun A7=>slot A7.tm 4=.one (.o (.ptr c4 0 0 1))∧slot A7.tm 5=.one (.o (.ptr c5 0 0 1))∧A7.nt=23∧A7.dfr=[H5.nx]) ⟨t4,t5,B0,by show H5.nx::A.dfr=_;rw[C0]⟩ ?_;rintro A7 ⟨u4,u5,unt,udf⟩;repeat' first|refine R1.ret ?_|refine R1.exit ?_|refine R1.skip ?_|refine R1.rF ?_|refine R1.lO ?_|refine R1.au ?_|refine R1.aY ?_|refine R1.ja ?_|((first|refine R1.FE fun K hK=>?_|refine R1.oP fun K hK=>?_|refine R1.EY (by kernel_rfl) fun K hK=>?_|refine R1.AQ (by kernel_rfl) fun K hK=>?_);simp only[qB,ay,ae,u4,u5,tw,dG,a2,a3,m4,m5,aq (Nat.ne_of_gt o45)];refine hK _ _ ?_;clear hK K)
  refine fin .ret _ _ _ 0 11 (.inr rfl) (by simp only[udf];exact gY (by rw[aq (by omega),aq (by omega)];exact hd6)) (((g6.mod _ (.inl (by omega))).mod _ (.inl (by omega))).mod _ (.inl (by have:=gg.nx;omega))) (by simp only[u4]) (by simp only[u5]) (by rw[aq (by omega),aq (by omega)];exact ak rfl) (by rw[aq (by omega)];exact ak rfl) a4
 rintro e s' H6 Y0 ⟨rfl,a2,a3,a5⟩ n6 hd6 N5 T6;have g6:Gr H H6:=gg.then N5 fun k hk=>.inl (by rcases hk with rfl|rfl <;> omega);exact k4 _ _ (fin .ret _ _ _ _ _ (.inr rfl) (by show closeAll H6 (H5.nx::A.dfr)=_;rw[C0];exact gY hd6) (g6.mod _ (.inl (by have:=gg.nx;omega))) t4 t5 (by rw[aq (by omega)];exact a2) (by rw[aq (by omega)];exact a3) rfl)
theorem hH {n:List UInt8} {us:List Pr} (h:aR n us=0):us.length≤12∧(yv 1 us).length=us.length∧∀ x∈us,1≤x.2∧x.2≤60:=by
 have hl:=iz h;unfold aR at h;by_cases hk:eD n us=true
 ·unfold eD at hk;simp only[Bool.and_eq_true,decide_eq_true_eq] at hk;have hy:=hk.1.2;exact ⟨hl,hy,((ta 1 us).1 hy).1⟩
 rw[zB1 hk] at h;cases h
theorem Fx:al Tryz.prog 145=true:=by kernel_rfl
theorem wa {E:Env} {s t q:Tmp} {A:ab} {H:Hp} {e:aD} (c d f:AC) (he:e=.normal∨e=.ret) (hd:A.dfr=[]) (hs:slot A.tm s=.one c) (ht:slot A.tm t=.one d) (hq:slot A.tm q=.one f):aC E [.tmp s,.tmp t,.tmp q] (e,A,H)=.ok [(.tup [(false,[c]),(false,[d]),(false,[f])],H)]:=by
 have key:(aw (closeAll H A.dfr) (R.bad "marks") fun h2=>aw (bc E.P [.tmp s,.tmp t,.tmp q] A.tm h2) (.bad "results") fun l=>.ok [(cY l,h2)])=.ok [(.tup [(false,[c]),(false,[d]),(false,[f])],H)]:=by
  rw[hd];have hr:bc E.P [.tmp s,.tmp t,.tmp q] A.tm H=some [(false,[c]),(false,[d]),(false,[f])]:=by
   show aw (aw (A.tm.get s) none fg) none (fun x=>aw (aw (aw (A.tm.get t) none fg) none fun x=>aw (aw (aw (A.tm.get q) none fg) none fun x=>aw (some []) none fun l=>some (x::l)) none fun l=>some (x::l)) none fun l=>some (x::l))=_;rw[sJ hs,sJ ht,sJ hq];rfl
  show aw (bc E.P [.tmp s,.tmp t,.tmp q] A.tm H) (R.bad "results") (fun l=>R.ok [(cY l,H)])=_
  rw[hr];rfl
 rcases he with rfl|rfl
 ·exact key
 exact key
def cV (n:List UInt8) (us:List Pr):Bool→Int→Int→List Gp→Int×Int×Int
 | _,sum,last,[]=>(sum,last,0)
 | later,sum,last,g::l=>
  if (fO n us g.2.1).2≠0 then (0,0,(fO n us g.2.1).2) else if later=true∧last≤(fO n us g.2.1).1 then (0,0,22) else
  cV n us true (IntKind.i64.wrap (sum+IntKind.i64.wrap (g.1*(fO n us g.2.1).1))) (fO n us g.2.1).1 l
theorem xL (H:Hp) (n:List UInt8) (u v:AC) (us:List Pr) (l:List Gp) (hu:SlP H u us) (hv:aO H v l) (hL:l.length≤1000000):
  Con E2 145 [.agg [.o (.str n),u],.one v] H (fun _=>False) fun r _=>r=.tup [(false,[.i .i64 (cV n us false 0 0 l).1]),(false,[.i .i64 (cV n us false 0 0 l).2.1]),(false,[.i .i64 (cV n us false 0 0 l).2.2])]:=by
 refine Con.of rfl fun lg=>?_;have hu:SlP ⟨H.t,H.nx,lg⟩ u us:=hu;have hv:aO ⟨H.t,H.nx,lg⟩ v l:=hv;generalize (⟨H.t,H.nx,lg⟩:Hp)=H at hu hv ⊢;refine C1.body (E:=E2) (nt:=45) (res:=[.tmp 4,.tmp 5,.tmp 6]) Tryz.func145 rfl rfl rfl rfl rfl fun tm A0=>?_;have h0:=A0 0 _ rfl;have h1:=A0 1 _ rfl;clear A0;have fin:∀ (a b c:Int) (A:ab) (H3:Hp),slot A.tm 4=.one (.i .i64 a)→slot A.tm 5=.one (.i .i64 b)→slot A.tm 6=.one (.i .i64 c)→A.dfr=[]→Gr H H3→(a,b,c)=cV n us false 0 0 l →
   ∃ w H4,aC E2 [.tmp 4,.tmp 5,.tmp 6] (.ret,A,H3)=.ok [(w,H4)]∧Gr H H4∧∀ _:List Nat,w=.tup [(false,[.i .i64 (cV n us false 0 0 l).1]),(false,[.i .i64 (cV n us false 0 0 l).2.1]),(false,[.i .i64 (cV n us false 0 0 l).2.2])]:=fun a b c A H3 h1 h2 h3 hd hg hv=>
  ⟨_,H3,wa (.i .i64 a) (.i .i64 b) (.i .i64 c) (.inr rfl) hd h1 h2 h3,hg,fun _=>by rw[←hv]⟩
 generalize E0:cV n us false 0 0 l=r0 at fin;refine qG (qA ae h0) fun K hK=>?_;refine hK _ _ ?_;clear hK K;refine R1.gen (fun A1 H1=>Gr H H1∧H.nx<H1.nx∧H1.get H.nx=some (.arr [.o (.str n),u] 97 0 0)∧slot A1.tm 1=.one v∧slot A1.tm 2=.one (.o (.ptr H.nx 0 0 2))∧slot A1.tm 4=.one (.i .i64 0)∧slot A1.tm 5=.one (.i .i64 0)∧A1.nt=45∧A1.dfr=[])
  ⟨(Fr.refl _).new _,?_⟩ ?_
 ·exact qZ h1
 rintro A1 H1 ⟨g1,n1,rb,t1,t2,t4,t5,B0,C0⟩;clear h0 h1 tm;obtain ⟨kb,E_⟩:∃ k,k=H.nx:=⟨_,rfl⟩;rw[←E_] at n1 rb t2;have B2:=hu.gr g1;have Y1:=hv.gr g1;refine qW (qA ae (qA t1 (qA B0 (qA dR (qA Y1.len Y1.lt))))) ?_;refine R1.aK fun K k1 k2 k3 k4=>?_;refine R1.loop (fun k A H2=>∃ (i:Nat) (a b:Int),k=l.length - i∧i≤l.length∧Gr H1 H2∧cV n us (decide (0<i)) a b (l.drop i)=r0∧slot A.tm 2=.one (.o (.ptr kb 0 0 2))∧slot A.tm 4=.one (.i .i64 a)∧slot A.tm 5=.one (.i .i64 b)∧slot A.tm 11=.one v∧slot A.tm 12=.one (.i .i64 (l.length:Int))∧slot A.tm 13=.one (.i .i64 (i:Int))∧A.nt=45∧A.dfr=[]) ?_ l.length
  ⟨0,0,0,rfl,Nat.zero_le _,Fr.refl _,E0,?_⟩
 ·clear t1 t2 t4 t5 B0 C0 A1;rintro k A H2 ⟨i,a,b,rfl,hi,g2,hr,t2,t4,t5,t11,t12,t13,B0,C0⟩;have G3:=B2.gr g2;have N2:=Y1.gr g2;have g2':=g1.gr g2;have rb:H2.get kb=some (.arr [.o (.str n),u] 97 0 0):=by rw[g2.get _ n1 zB2];exact rb
  have n2:kb<H2.nx:=zA0 n1 g2.nx;refine qW (qA ae (qA t12 (qA t13 B0))) ?_;refine qE fun Kx Ky hx hy=>?_;refine dV (fun hc=>hx ?_) (fun hc=>hy ?_)
  ·clear hx hy Kx Ky;have D0:i<l.length:=by omega
   obtain ⟨id,g,off,cells,rfl,hid,R0,J0⟩:=N2.open (by omega);have ex:=zB4 D0;have O0:=zC1 D0;generalize l[i]=x at ex O0;have K0:=J0 i x ex;have Q1:=zC0 i (by omega);rw[O0,cV] at hr;refine qV ?_;refine R1.aK fun K2 q1 q2 q3 q4=>?_;refine qG (qA ae (qA t11 (qA t13 (qA B0 (qA eS (qA fl (qA qx (qA mc (qA (ixC D0) (qA hid (qA R0 (qA K0.all (qA K0.le du))))))))))))) fun K hK=>?_;refine hK _ _ ?_;clear hK K;refine R1.gen (fun A3 H3=>Gr H2 H3∧H2.nx<H3.nx∧H3.get H2.nx=some (.arr (gpC x) 181 0 0)∧slot A3.tm 2=.one (.o (.ptr kb 0 0 2))∧slot A3.tm 4=.one (.i .i64 a)∧slot A3.tm 5=.one (.i .i64 b)∧slot A3.tm 7=.one (.i .i64 (i:Int))∧slot A3.tm 8=.one (.o (.ptr H2.nx 0 0 3))∧slot A3.tm 11=.one (.o (.sl id g off l.length 3))∧slot A3.tm 12=.one (.i .i64 (l.length:Int))∧slot A3.tm 13=.one (.i .i64 (i:Int))∧A3.nt=45∧A3.dfr=[])
    ⟨((Fr.refl _).new _).mod _ (.inl (zA1 _)),?_⟩ ?_
   ·exact qZ (qA t2 (qA t4 (qA t5 (qA t11 (qA t12 (qA t13 (qA B0 (qA C0 du))))))))
   clear t2 t4 t5 t11 t12 t13 B0 C0 A;rintro A H3 ⟨g3,n3,rx,t2,t4,t5,t7,t8,t11,t12,t13,B0,C0⟩;have rb3:H3.get kb=some (.arr [.o (.str n),u] 97 0 0):=by rw[g3.get _ n2 zB2];exact rb
   have n23:kb<H3.nx:=zA0 n2 g3.nx;refine qG (qA ae (qA t2 (qA t8 (qA B0 (qA rb3 (qA n23 (qA rx (qA n3 (qA cW (qA jA (qA aT (qA du Rf)))))))))))) fun K hK=>?_;refine WE.con (Mh H3 n u us x.2.1 (G3.gr g3)) fun w H4 g4 hw=>?_;subst hw;have rx4:H4.get H2.nx=some (.arr (gpC x) 181 0 0):=by rw[g4.get _ n3 zB2];exact rx
   have n4:H2.nx<H4.nx:=zA0 n3 g4.nx;have g24:Gr H1 H4:=g2.gr (g3.gr g4);have g4':Gr H H4:=g1.gr g24;refine qS (qA ae B0) ?_;refine hK _ _ ?_;clear hK K;generalize fO n us x.2.1=ve at hr ⊢;obtain ⟨w,e0⟩:=ve;simp only at hr ⊢
   by_cases N0:e0=0
   case neg=>
    have ce:(e0 != 0)=true:=bne_iff_ne.2 N0;rw[zB0 N0] at hr;refine qW (qA ae (qA B0 ce)) ?_;refine qE fun Kx Ky hx hy=>?_;refine dV (fun _=>hx ?_) (fun h=>absurd ce (by simpa using h));clear hx hy Kx Ky;refine qW B0 ?_;exact q4 _ _ (k4 _ _ (fin 0 0 e0 _ _ qp qp qp (qd C0) g4' hr))
   rw[zB1 (fun h=>h N0)] at hr;refine qW (qA ae (qA B0 N0)) ?_;refine qY ?_;refine R1.aY ?_;by_cases O4:(0<i)∧b≤w
   ·have c0:((0:Int)<(i:Int))=True:=eq_true (by omega);have c1:(b≤w)=True:=eq_true O4.2;rw[zB0 ⟨decide_eq_true O4.1,O4.2⟩] at hr;refine qW (qA ae (qA t5 (qA t7 (qA B0 (qA c0 c1))))) ?_;refine qY ?_;refine qW B0 ?_;exact q4 _ _ (k4 _ _ (fin 0 0 22 _ _ qp qp qp (qd C0) g4' hr))
   rw[zB1 (fun h=>O4 ⟨of_decide_eq_true h.1,h.2⟩)] at hr;have next:∀ (A2:ab),slot A2.tm 2=.one (.o (.ptr kb 0 0 2))→slot A2.tm 4=.one (.i .i64 (IntKind.i64.wrap (a+IntKind.i64.wrap (x.1*w))))→slot A2.tm 5=.one (.i .i64 w)→slot A2.tm 11=.one (.o (.sl id g off l.length 3))→slot A2.tm 12=.one (.i .i64 (l.length:Int))→slot A2.tm 13=.one (.i .i64 (i:Int))→A2.nt=45→A2.dfr=[]→K2 .normal A2 H4:=by
    intro A2 s2 s4 s5 s11 s12 s13 hn hd;refine q1 _ _ ?_;refine qW (qA hn (qA s13 Q1)) ?_;refine ⟨l.length - (i+1),by omega,i+1,_,w,rfl,D0,g24,(by rw[decide_eq_true (Nat.succ_pos i)];exact hr),?_,?_,?_,?_,?_,?_,?_,?_⟩
    ·simp only[aa,Nat.reduceEqDiff,reduceIte,s2]
    ·simp only[aa,Nat.reduceEqDiff,reduceIte,s4]
    ·simp only[aa,Nat.reduceEqDiff,reduceIte,s5]
    ·simp only[aa,Nat.reduceEqDiff,reduceIte,s11]
    ·simp only[aa,Nat.reduceEqDiff,reduceIte,s12]
    ·simp only[aa,Nat.reduceEqDiff,reduceIte]
    ·simp only[ao,hn]
    simp only[ai,hd]
   clear q1;by_cases h0i:0<i
   ·have c0:((0:Int)<(i:Int))=True:=eq_true (by omega);have c1:(b≤w)=False:=eq_false fun h=>O4 ⟨h0i,h⟩;refine qW (qA ae (qA t5 (qA t7 (qA B0 (qA c0 c1))))) ?_;refine qY ?_;refine qW (qA ae (qA t4 (qA t8 (qA B0 (qA rx4 (qA n4 (qA du (qA im bu)))))))) ?_;refine next _ ?_ ?_ ?_ ?_ ?_ ?_ ?_ ?_ <;> simp only[aa,Nat.reduceEqDiff,reduceIte,ao,ai,t2,t11,t12,t13,B0,C0]
   have c0:((0:Int)<(i:Int))=False:=eq_false (by omega);refine qW (qA ae (qA t5 (qA t7 (qA B0 c0)))) ?_;refine qY ?_;refine qW (qA ae (qA t4 (qA t8 (qA B0 (qA rx4 (qA n4 (qA du (qA im bu)))))))) ?_;refine next _ ?_ ?_ ?_ ?_ ?_ ?_ ?_ ?_ <;> simp only[aa,Nat.reduceEqDiff,reduceIte,ao,ai,t2,t11,t12,t13,B0,C0]
  clear hx hy Kx Ky;have S1:i=l.length:=by omega
  rw[S1,List.drop_length,cV] at hr;refine qW B0 ?_;refine k2 _ _ ?_;refine qW (qA B0 (qA t4 t5)) ?_;exact fin a b 0 _ _ qp qp qp (qd C0) g2' hr
 simp only[aa,Nat.reduceEqDiff,reduceIte,ao,ai,t2,t4,t5,B0,C0,and_self,true_and];exact ⟨rfl,trivial⟩
theorem Il:al Tryz.prog 85=true:=by kernel_rfl
theorem yE {x:Nm} (h:cC x=0):x.1.length≤24∧x.2.length≤24:=by
 unfold cC at h;by_cases hc:(24:Int)<x.1.length∨(24:Int)<x.2.length
 ·rw[zB0 hc] at h;cases h
 omega
def ff (n:List UInt8) (us:List Pr) (x:Nm):Int×Int:=
 if aR n us≠0 then (0,aR n us) else if cC x≠0 then (0,cC x) else if jf x.1=true then (0,24) else
 if (cV n us false 0 0 x.1).2.2≠0 then (0,(cV n us false 0 0 x.1).2.2) else if (1099511627776:Int)<(cV n us false 0 0 x.1).1 then (0,6) else
 if (cV n us false 0 0 x.2).2.2≠0 then (0,(cV n us false 0 0 x.2).2.2) else if (cV n us false 0 0 x.1).2.1≤(cV n us false 0 0 x.2).1 then (0,23) else
 (IntKind.i64.wrap ((cV n us false 0 0 x.1).1 - (cV n us false 0 0 x.2).1),0)
theorem Ea (H:Hp) (n:List UInt8) (u p q:AC) (us:List Pr) (x:Nm) (hu:SlP H u us) (hp:aO H p x.1) (hq:aO H q x.2):
  Con E2 85 [.agg [.o (.str n),u],.agg [p,q]] H (fun _=>False) fun r _=>r=.tup [(false,[.i .i64 (ff n us x).1]),(false,[.i .i64 (ff n us x).2])]:=by
 refine Con.of rfl fun lg=>?_;have hu:SlP ⟨H.t,H.nx,lg⟩ u us:=hu;have hp:aO ⟨H.t,H.nx,lg⟩ p x.1:=hp;have hq:aO ⟨H.t,H.nx,lg⟩ q x.2:=hq;generalize (⟨H.t,H.nx,lg⟩:Hp)=H at hu hp hq ⊢;refine C1.body (E:=E2) (nt:=56) (res:=[.tmp 4,.tmp 5]) Tryz.func85 rfl rfl rfl rfl rfl fun tm A0=>?_;have h0:=A0 0 _ rfl;have h1:=A0 1 _ rfl;clear A0;have fin:∀ (v w:Int) (A:ab) (H3:Hp),slot A.tm 4=.one (.i .i64 v)→slot A.tm 5=.one (.i .i64 w)→A.dfr=[]→Gr H H3→(v,w)=ff n us x →
   ∃ w H4,aC E2 [.tmp 4,.tmp 5] (.ret,A,H3)=.ok [(w,H4)]∧Gr H H4∧∀ _:List Nat,w=.tup [(false,[.i .i64 (ff n us x).1]),(false,[.i .i64 (ff n us x).2])]:=fun v w A H3 h1 h2 hd hg hv=>
  ⟨_,H3,bt (.i .i64 v) (.i .i64 w) (.inr rfl) hd h1 h2,hg,fun _=>by rw[←hv]⟩
 generalize E0:ff n us x=r0 at fin;unfold ff at E0;refine qG (qA ae (qA h0 h1)) fun K hK=>?_;refine hK _ _ ?_;clear hK K;refine R1.gen (fun A1 H1=>Gr H H1∧H.nx+1<H1.nx∧H1.get H.nx=some (.arr [.o (.str n),u] 97 0 0)∧H1.get (H.nx+1)=some (.arr [p,q] 66 0 0)∧slot A1.tm 2=.one (.o (.ptr H.nx 0 0 2))∧slot A1.tm 3=.one (.o (.ptr (H.nx+1) 0 0 2))∧A1.nt=56∧A1.dfr=[])
  ⟨((Fr.refl _).new _).new _,?_⟩ ?_
 ·exact qU
 rintro A1 H1 ⟨g1,n1,ra,rb,t2,t3,B0,C0⟩;clear h0 h1 tm;obtain ⟨k1,V3⟩:∃ k,k=H.nx:=⟨_,rfl⟩;obtain ⟨k2,X3⟩:∃ k,k=H.nx+1:=⟨_,rfl⟩;rw[←X3] at n1 rb t3;rw[←V3] at ra t2;have m1:k1<H1.nx:=by omega
 clear V3 X3;have B2:=hu.gr g1;have k8:=hp.gr g1;have hq1:=hq.gr g1;refine qG (qA ae (qA t2 (qA B0 (qA ra (qA m1 (qA cW lA)))))) fun K hK=>?_;refine WE.con (jR H1 n u us B2) fun v H2 g2 hv=>?_;subst hv;have ra:=(g2.get _ m1 zB2).trans ra;have rb:=(g2.get _ n1 zB2).trans rb;have m1:=zA0 m1 g2.nx;have n1:=zA0 n1 g2.nx;have G3:=B2.gr g2;have C5:=k8.gr g2;have C4:=hq1.gr g2;have g2:=g1.gr g2;refine qS (qA ae B0) ?_;refine hK _ _ ?_;clear hK K;generalize aR n us=e0 at E0 ⊢;by_cases N0:e0=0
 case neg=>
  have ce:(e0 != 0)=true:=bne_iff_ne.2 N0;rw[zB0 N0] at E0;refine qW (qA ae (qA B0 ce)) ?_;refine qE fun Kx Ky hx hy=>?_;refine dV (fun _=>hx ?_) (fun h=>absurd ce (by simpa using h));clear hx hy Kx Ky;refine qW B0 ?_;exact fin (0) (e0) _ _ qp qp (qd C0) g2 E0
 rw[zB1 (fun h=>h N0)] at E0;refine qW (qA ae (qA B0 N0)) ?_;refine qY ?_;refine R1.aY ?_;refine qG (qA ae (qA t3 (qA B0 (qA rb (qA n1 (qA lX jc)))))) fun K hK=>?_;refine WE.con (hG H2 p q x C5 C4) fun v H3 g3 hv=>?_;subst hv;have ra:=(g3.get _ m1 zB2).trans ra;have rb:=(g3.get _ n1 zB2).trans rb;have m1:=zA0 m1 g3.nx;have n1:=zA0 n1 g3.nx;have P6:=G3.gr g3;have S':=C5.gr g3;have T8:=C4.gr g3;have g3:=g2.gr g3;have hlen:=@yE x;refine qS (qA ae B0) ?_;refine hK _ _ ?_;clear hK K;generalize cC x=e1 at E0 hlen ⊢;by_cases R4:e1=0
 case neg=>
  have ce:(e1 != 0)=true:=bne_iff_ne.2 R4;rw[zB0 R4] at E0;refine qW (qA ae (qA B0 ce)) ?_;refine qE fun Kx Ky hx hy=>?_;refine dV (fun _=>hx ?_) (fun h=>absurd ce (by simpa using h));clear hx hy Kx Ky;refine qW B0 ?_;exact fin (0) (e1) _ _ qp qp (qd C0) g3 E0
 rw[zB1 (fun h=>h R4)] at E0;obtain ⟨l6,l7⟩:=hlen R4;refine qW (qA ae (qA B0 R4)) ?_;refine qY ?_;refine R1.aY ?_;refine qG (qA ae (qA t3 (qA B0 (qA rb (qA n1 (qA cJ (qA cT qt))))))) fun K hK=>?_;refine WE.con (oe H3 p x.1 S' (by omega)) fun v H4 g4 hv=>?_;subst hv;have ra:=(g4.get _ m1 zB2).trans ra;have rb:=(g4.get _ n1 zB2).trans rb;have m1:=zA0 m1 g4.nx;have n1:=zA0 n1 g4.nx;have hu4:=P6.gr g4;have hp4:=S'.gr g4;have Z9:=T8.gr g4;have g4:=g3.gr g4;refine qS (qA ae B0) ?_;refine hK _ _ ?_;clear hK K;cases hb:jf x.1 with
 | true=>
  rw[zB0 hb] at E0;refine qY ?_;refine qW B0 ?_;exact fin (0) (24) _ _ qp qp (qd C0) g4 E0
 | false=>
 rw[zB1 (by rw[hb];exact zA8)] at E0;refine qY ?_;refine R1.aY ?_;refine qG (qA ae (qA t2 (qA t3 (qA B0 (qA ra (qA m1 (qA rb (qA n1 (qA cW (qA cJ (qA cT Fx))))))))))) fun K hK=>?_;refine WE.con (xL H4 n u p us x.1 hu4 hp4 (by omega)) fun v H5 g5 hv=>?_;subst hv;have ra:=(g5.get _ m1 zB2).trans ra;have rb:=(g5.get _ n1 zB2).trans rb;have m1:=zA0 m1 g5.nx;have n1:=zA0 n1 g5.nx;have O6:=hu4.gr g5;have Y6:=Z9.gr g5;have g5:=g4.gr g5;refine qS (qA ae B0) ?_;refine hK _ _ ?_;clear hK K;generalize cV n us false 0 0 x.1=s1 at E0 ⊢;obtain ⟨a1,b1,c1⟩:=s1;simp only at E0 ⊢
 by_cases M':c1=0
 case neg=>
  have ce:(c1 != 0)=true:=bne_iff_ne.2 M';rw[zB0 M'] at E0;refine qW (qA ae (qA B0 ce)) ?_;refine qE fun Kx Ky hx hy=>?_;refine dV (fun _=>hx ?_) (fun h=>absurd ce (by simpa using h));clear hx hy Kx Ky;refine qW B0 ?_;exact fin (0) (c1) _ _ qp qp (qd C0) g5 E0
 rw[zB1 (fun h=>h M')] at E0;refine qW (qA ae (qA B0 M')) ?_;refine qY ?_;refine R1.aY ?_;by_cases M0:(1099511627776:Int)<a1
 ·have cb:((1099511627776:Int)<a1)=True:=eq_true M0;rw[zB0 M0] at E0;refine qW (qA ae (qA B0 cb)) ?_;refine qY ?_;refine qW B0 ?_;exact fin (0) (6) _ _ qp qp (qd C0) g5 E0
 have cb:((1099511627776:Int)<a1)=False:=eq_false M0;rw[zB1 M0] at E0;refine qW (qA ae (qA B0 cb)) ?_;refine qY ?_;refine R1.aY ?_;refine qG (qA ae (qA t2 (qA t3 (qA B0 (qA ra (qA m1 (qA rb (qA n1 (qA cW (qA dL (qA cT Fx))))))))))) fun K hK=>?_;refine WE.con (xL H5 n u q us x.2 O6 Y6 (by omega)) fun v H6 g6 hv=>?_;subst hv;have g6:=g5.gr g6;refine qS (qA ae B0) ?_;refine hK _ _ ?_;clear hK K;generalize cV n us false 0 0 x.2=s2 at E0 ⊢;obtain ⟨a2,b2,c2⟩:=s2;simp only at E0 ⊢
 by_cases o8:c2=0
 case neg=>
  have ce:(c2 != 0)=true:=bne_iff_ne.2 o8;rw[zB0 o8] at E0;refine qW (qA ae (qA B0 ce)) ?_;refine qE fun Kx Ky hx hy=>?_;refine dV (fun _=>hx ?_) (fun h=>absurd ce (by simpa using h));clear hx hy Kx Ky;refine qW B0 ?_;exact fin (0) (c2) _ _ qp qp (qd C0) g6 E0
 rw[zB1 (fun h=>h o8)] at E0;refine qW (qA ae (qA B0 o8)) ?_;refine qY ?_;refine R1.aY ?_;by_cases N8:b1≤a2
 ·have cg:(b1≤a2)=True:=eq_true N8;rw[zB0 N8] at E0;refine qW (qA ae (qA B0 cg)) ?_;refine qY ?_;refine qW B0 ?_;exact fin (0) (23) _ _ qp qp (qd C0) g6 E0
 have cg:(b1≤a2)=False:=eq_false N8;rw[zB1 N8] at E0;refine qW (qA ae (qA B0 cg)) ?_;refine qY ?_;refine qW B0 ?_;exact fin (IntKind.i64.wrap (a1 - a2)) (0) _ _ qp qp (qd C0) g6 E0
theorem Lt:al Tryz.prog 25=true:=by kernel_rfl
theorem SlI.gr {H H':Hp} {v:AC} {l:List Int} (h:SlI H v l) (hg:Gr H H'):SlI H' v l:=SlC.gr h hg
theorem SlI.len {H:Hp} {v:AC} {l:List Int} (h:SlI H v l):cR H 1 (.one v)=.val (.one (.i .i64 (l.length:Int))) H:=SlC.len h
theorem SlI.lt {H:Hp} {v:AC} {l:List Int} (h:SlI H v l):ltV (.one v) H.nx:=mA h
theorem SlI.nil {H:Hp}:SlI H (.o .nilS) []:=⟨by simp,.inl ⟨rfl,rfl⟩⟩
theorem SlI.open {H:Hp} {v:AC} {l:List Int} (h:SlI H v l) (hn:0<l.length):∃ id g off cells,v=.o (.sl id g off l.length 1)∧id<H.nx∧rowOf (H.get id) g=some cells∧∀ (i:Nat) (x:Int),l[i]?=some x→(cells.drop (off+i*1)).headD (.b false)=.i .i64 x∧off+i*1+1≤cells.length:=by
 obtain ⟨id,g,off,h1,h2,hr⟩:=SlC.pos h hn;have L3:=hr;obtain ⟨cells,h3,h6,h7⟩:=hr;refine ⟨id,g,off,cells,h1,h2,h3,fun i x hx=>?_⟩;obtain ⟨cells',k3,k6,k7⟩:=Rd.at (c:=sH) QQ L3 hx;rw[h3] at k3;cases k3
 refine ⟨?_,k6⟩;cases hd:cells.drop (off+i*1) with
 | nil=>have:=congrArg List.length hd;simp at this;omega
 | cons a r=>
  rw[hd] at k7;have:=(List.cons.inj k7).1;rw[this];rfl
theorem Hl (H:Hp) (v w:AC) (l:List Int) (hv:SlI H v l) (hw:SlI H w l) (hL:l.length≤4611686018427387904):
  Con E2 25 [.one v,.one w] H (fun _=>False) fun r _=>r=.one (.b true):=by
 refine Con.of rfl fun lg=>?_;have hv:SlI ⟨H.t,H.nx,lg⟩ v l:=hv;have hw:SlI ⟨H.t,H.nx,lg⟩ w l:=hw;generalize (⟨H.t,H.nx,lg⟩:Hp)=H at hv hw ⊢;refine C1.body (E:=E2) (nt:=26) (res:=[.tmp 4]) Tryz.func25 rfl rfl rfl rfl rfl fun tm A0=>?_;have h0:=A0 0 _ rfl;have h1:=A0 1 _ rfl;clear A0;have Y0:((l.length:Int)==(l.length:Int))=true:=by simp
 refine qW (qA ae (qA h0 (qA h1 (qA pb (qA hv.len (qA hw.len (qA hv.lt (qA hw.lt Y0)))))))) ?_;refine qY ?_;refine qV ?_;refine R1.aK fun K k1 k2 k3 k4=>?_;refine R1.loop (fun k A H2=>∃ i:Nat,k=l.length - i∧i≤l.length∧H2=H∧slot A.tm 0=.one (v)∧slot A.tm 1=.one (w)∧slot A.tm 5=.one (.i .i64 (i:Int))∧A.nt=26∧A.dfr=[]) ?_ l.length ⟨0,rfl,Nat.zero_le _,rfl,?_⟩
 ·clear h0 h1 tm;rintro k A H2 ⟨i,rfl,hi,rfl,t0,t1,t5,B0,C0⟩;refine qW (qA ae (qA t0 (qA t5 (qA B0 (qA pb (qA hv.len hv.lt)))))) ?_;refine qE fun Kx Ky hx hy=>?_;refine dV (fun hc=>hx ?_) (fun hc=>hy ?_)
  ·clear hx hy Kx Ky;have D0:i<l.length:=by omega
   have ex:=zB4 D0;have O0:=zC1 D0;have Z0:=zC2 D0;have G0:l[i]∈l:=List.getElem_mem D0;generalize l[i]=x at ex O0 Z0 G0;have Q1:=zC0 i (by omega);have W0:(x==x)=true:=by simp
   obtain ⟨id,g,off,cells,rfl,hid,R0,J0⟩:=hv.open (by omega);obtain ⟨id',g',off',cells',rfl,J1,v3,N3⟩:=hw.open (by omega);have K0:=J0 i x ex;have F3:=N3 i x ex;refine qV ?_;refine R1.aK fun K2 q1 q2 q3 q4=>?_;refine qH (qA ae (qA t0 (qA t1 (qA t5 (qA B0 (qA di (qA bu (qA (ixC D0) (qA hid (qA R0 (qA J1 (qA v3 (qA K0.1 (qA K0.2 (qA F3.1 (qA F3.2 W0)))))))))))))))) fun K hK=>?_;refine hK _ _ ?_;clear hK K;refine qY ?_;refine qW B0 ?_;refine q1 _ _ ?_;refine qW (qA B0 (qA t5 Q1)) ?_;refine ⟨l.length - (i+1),by omega,i+1,rfl,D0,rfl,?_⟩;repeat' (first|(simp only[aa,Nat.reduceEqDiff,reduceIte,ao,ai,t0,t1,t5,B0,C0];first|done|rfl)|refine ⟨?_,?_⟩)
  clear hx hy Kx Ky;refine qW B0 ?_;refine k2 _ _ ?_;refine qW B0 ?_;exact ⟨_,_,aj (.b true) (.inr rfl) (qd C0) qp,Fr.refl _,fun _=>rfl⟩
 repeat' (first|(simp only[aa,Nat.reduceEqDiff,reduceIte,ao,ai,h0,h1];first|done|rfl)|refine ⟨?_,?_⟩)
abbrev Cl:=Int×List UInt8×List UInt8×Nm
def ClR (H:Hp) (c:List AC) (x:Cl):Prop:=∃ p q,c=[.i .i64 x.1,.o (.str x.2.1),.o (.str x.2.2.1),p,q]∧aO H p x.2.2.2.1∧aO H q x.2.2.2.2
theorem ClR.gr {H H':Hp} {c:List AC} {x:Cl} (h:ClR H c x) (hg:Gr H H'):ClR H' c x:=let ⟨p,q,h1,h2,h3⟩:=h;⟨p,q,h1,h2.gr hg,h3.gr hg⟩
theorem AK {k:Int} {s t:List UInt8} {p q:AC}:jh [.i .i64 k,.o (.str s),.o (.str t),p,q]=(AV.one p).ids++(AV.one q).ids:=by
 simp only[qg,uL,PI,KD,List.nil_append,List.append_nil]
theorem An:FrR ClR:=fun Y H H' c x ⟨p,q,h1,h2,h3⟩ hf hi=>by
 subst h1;rw[AK] at hi;exact ⟨p,q,rfl,SlC.fr h2 hf fun i h=>hi i (List.mem_append_left _ h),SlC.fr h3 hf fun i h=>hi i (List.mem_append_right _ h)⟩
theorem vv:LtR ClR:=fun H c x ⟨p,q,h1,h2,h3⟩ i hi=>by
 subst h1;rw[AK] at hi;rcases List.mem_append.1 hi with h|h
 ·exact h2.lt i h
 exact h3.lt i h
def iu (H:Hp) (v:AC) (l:List Cl):Prop:=SlR ClR 5 H v l
theorem iu.gr {H H':Hp} {v:AC} {l:List Cl} (h:iu H v l) (hg:Gr H H'):iu H' v l:=SlR.dE h hg.nx (fun i hi=>hg.get i hi zB2) fun _ _ h=>h.gr hg
theorem iu.len {H:Hp} {v:AC} {l:List Cl} (h:iu H v l):cR H 1 (.one v)=.val (.one (.i .i64 (l.length:Int))) H:=SlR.len h
theorem iu.lt {H:Hp} {v:AC} {l:List Cl} (h:iu H v l):ltV (.one v) H.nx:=SlR.lt h
structure ClAt (H:Hp) (cells:List AC) (o:Nat) (x:Cl) (p q:AC):Prop where
 of1:aO H p x.2.2.2.1
 of2:aO H q x.2.2.2.2
 all:(cells.drop o).take 5=[.i .i64 x.1,.o (.str x.2.1),.o (.str x.2.2.1),p,q]
 le:o+5≤cells.length
 le1:o+1≤cells.length
 le2:o+1+1≤cells.length
 le3:o+2+1≤cells.length
 le4:o+3+2≤cells.length
 f1:(cells.drop o).headD (.b false)=.i .i64 x.1
 f2:(cells.drop (o+1)).headD (.b false)=.o (.str x.2.1)
 f3:(cells.drop (o+2)).headD (.b false)=.o (.str x.2.2.1)
 f4:(cells.drop (o+3)).take 2=[p,q]
theorem UT {cells:List AC} {o:Nat} {a b c d e:AC} (h:(cells.drop o).take 5=[a,b,c,d,e]):(cells.drop o).headD (.b false)=a∧(cells.drop (o+1)).headD (.b false)=b∧(cells.drop (o+2)).headD (.b false)=c∧(cells.drop (o+3)).take 2=[d,e]:=by
 rw[←List.drop_drop,←List.drop_drop,←List.drop_drop];match hd:cells.drop o,h with
 | x0::x1::x2::x3::x4::r,h=>
  simp only[List.take_succ_cons,List.take_zero,List.cons.injEq,and_true] at h;obtain ⟨rfl,rfl,rfl,rfl,rfl⟩:=h;exact ⟨rfl,rfl,rfl,rfl⟩
theorem iu.open {H:Hp} {v:AC} {l:List Cl} (h:iu H v l) (hn:0<l.length):∃ id g off cells,v=.o (.sl id g off l.length 5)∧id<H.nx∧rowOf (H.get id) g=some cells∧∀ (i:Nat) (x:Cl),l[i]?=some x→∃ p q,ClAt H cells (off+i*5) x p q:=by
 obtain ⟨id,g,off,cells,h1,h2,h3,h4⟩:=SlR.open h hn;refine ⟨id,g,off,cells,h1,h2,h3,fun i x hx=>?_⟩;obtain ⟨h5,c,h6,h7,p,q,rfl,h8,h9⟩:=h4 i x hx;obtain ⟨d1,d2,d3,d4⟩:=UT h6;exact ⟨p,q,h8,h9,h6,h5,by omega,by omega,by omega,by omega,d1,d2,d3,d4⟩
abbrev Rl:=Int×List Int
def RlR (H:Hp) (c:List AC) (x:Rl):Prop:=∃ u,c=[.i .i64 x.1,u]∧SlI H u x.2
theorem RlR.gr {H H':Hp} {c:List AC} {x:Rl} (h:RlR H c x) (hg:Gr H H'):RlR H' c x:=let ⟨u,h1,h2⟩:=h;⟨u,h1,h2.gr hg⟩
theorem BD {k:Int} {u:AC}:jh [.i .i64 k,u]=(AV.one u).ids:=by
 simp only[qg,uL,PI,List.nil_append,List.append_nil]
theorem Bm:FrR RlR:=fun Y H H' c x ⟨u,h1,h2⟩ hf hi=>by
 subst h1;rw[BD] at hi;exact ⟨u,rfl,SlC.fr h2 hf hi⟩
theorem vu:LtR RlR:=fun H c x ⟨u,h1,h2⟩ i hi=>by
 subst h1;rw[BD] at hi;exact h2.lt i hi
def kJ (H:Hp) (v:AC) (l:List Rl):Prop:=SlR RlR 2 H v l
theorem kJ.gr {H H':Hp} {v:AC} {l:List Rl} (h:kJ H v l) (hg:Gr H H'):kJ H' v l:=SlR.dE h hg.nx (fun i hi=>hg.get i hi zB2) fun _ _ h=>h.gr hg
theorem kJ.len {H:Hp} {v:AC} {l:List Rl} (h:kJ H v l):cR H 1 (.one v)=.val (.one (.i .i64 (l.length:Int))) H:=SlR.len h
theorem kJ.lt {H:Hp} {v:AC} {l:List Rl} (h:kJ H v l):ltV (.one v) H.nx:=SlR.lt h
structure RlAt (H:Hp) (cells:List AC) (o:Nat) (x:Rl) (u:AC):Prop where
 of:SlI H u x.2
 all:(cells.drop o).take 2=[.i .i64 x.1,u]
 le:o+2≤cells.length
 le1:o+1≤cells.length
 le2:o+1+1≤cells.length
 f1:(cells.drop o).headD (.b false)=.i .i64 x.1
 f2:(cells.drop (o+1)).headD (.b false)=u
theorem Vp {cells:List AC} {o:Nat} {a b:AC} (h:(cells.drop o).take 2=[a,b]):(cells.drop o).headD (.b false)=a∧(cells.drop (o+1)).headD (.b false)=b:=by
 rw[←List.drop_drop];match hd:cells.drop o,h with
 | x0::x1::r,h=>
  simp only[List.take_succ_cons,List.take_zero,List.cons.injEq,and_true] at h;obtain ⟨rfl,rfl⟩:=h;exact ⟨rfl,rfl⟩
theorem kJ.open {H:Hp} {v:AC} {l:List Rl} (h:kJ H v l) (hn:0<l.length):∃ id g off cells,v=.o (.sl id g off l.length 2)∧id<H.nx∧rowOf (H.get id) g=some cells∧∀ (i:Nat) (x:Rl),l[i]?=some x→∃ u,RlAt H cells (off+i*2) x u:=by
 obtain ⟨id,g,off,cells,h1,h2,h3,h4⟩:=SlR.open h hn;refine ⟨id,g,off,cells,h1,h2,h3,fun i x hx=>?_⟩;obtain ⟨h5,c,h6,h7,u,rfl,h8⟩:=h4 i x hx;obtain ⟨d1,d2⟩:=Vp h6;exact ⟨u,h8,h6,h5,by omega,by omega,d1,d2⟩
abbrev Pz:=List Cl×List Rl
structure PzB (p:Pz):Prop where
 c:p.1.length*88≤140737488355328
 r:p.2.length*32≤140737488355328
 t:∀ x∈p.1,x.2.2.2.1.length*32≤140737488355328∧x.2.2.2.2.length*32≤140737488355328
 p:∀ x∈p.2,x.2.length*8≤140737488355328
theorem CP (s:List UInt8):lEq s s=true:=by rw[cQ,beq_self_eq_true]
theorem JR:al Tryz.prog 37=true:=by kernel_rfl
theorem vY:al Tryz.prog 115=true:=by kernel_rfl
def bq (o:Option (List Lad)) (s:List UInt8):Lad:=match o with
 | none=>([],[])
 | some ls=>(gI 0 ls s).elim ([],[]) fun i=>ls.getD i ([],[])
theorem Oc.of {H:Hp} {c:List AC} {o:Option (List Lad)} {s:List UInt8} (h:Oc H c o s):∃ u,c=[.o (.str (bq o s).1),u]∧SlP H u (bq o s).2:=by
 obtain ⟨h1,h2⟩:=h;cases o with
 | none=>exact ⟨_,h1 (by rw[Mw];decide),SlP.nil⟩
 | some ls=>
  rw[mv] at h1;cases hi:gI 0 ls s with
  | none=>
   rw[hi] at h1;have e:bq (some ls) s=([],[]):=by unfold bq;simp only[hi,Option.elim_none]
   rw[e];exact ⟨_,h1 (by decide),SlP.nil⟩
  | some i=>
   obtain ⟨x,hx,_⟩:=OH hi;have e:bq (some ls) s=x:=by unfold bq;simp only[hi,Option.elim_some];rw[List.getD_eq_getElem?_getD,hx];rfl
   rw[e];exact h2 ls i x rfl hi hx
def gM (o:Option (List Lad)) (x:Cl):Int×Int:=if fH o x.2.2.1≠0 then (0,fH o x.2.2.1) else ff (bq o x.2.2.1).1 (bq o x.2.2.1).2 x.2.2.2
theorem EW (H:Hp) (k p q:AC) (o:Option (List Lad)) (x:Cl) (hk:bP H k o) (hL:∀ ls,o=some ls→∀ x∈ls,x.2.length≤1000000) (hp:aO H p x.2.2.2.1) (hq:aO H q x.2.2.2.2):
  Con E2 37 [.one k,.agg [.i .i64 x.1,.o (.str x.2.1),.o (.str x.2.2.1),p,q]] H (fun _=>False) fun r _=>r=.tup [(false,[.i .i64 (gM o x).1]),(false,[.i .i64 (gM o x).2])]:=by
 refine Con.of rfl fun lg=>?_;have hk:bP ⟨H.t,H.nx,lg⟩ k o:=bP.same (H:=H) rfl rfl hk;have hp:aO ⟨H.t,H.nx,lg⟩ p x.2.2.2.1:=hp;have hq:aO ⟨H.t,H.nx,lg⟩ q x.2.2.2.2:=hq;generalize (⟨H.t,H.nx,lg⟩:Hp)=H at hk hp hq ⊢;refine C1.body (E:=E2) (nt:=24) (res:=[.tmp 4,.tmp 5]) Tryz.func37 rfl rfl rfl rfl rfl fun tm A0=>?_;have h0:=A0 0 _ rfl;have h1:=A0 1 _ rfl;clear A0;have fin:∀ (v w:Int) (A:ab) (H3:Hp),slot A.tm 4=.one (.i .i64 v)→slot A.tm 5=.one (.i .i64 w)→A.dfr=[]→Gr H H3→(v,w)=gM o x→∃ w H4,aC E2 [.tmp 4,.tmp 5] (.ret,A,H3)=.ok [(w,H4)]∧Gr H H4∧∀ _:List Nat,w=.tup [(false,[.i .i64 (gM o x).1]),(false,[.i .i64 (gM o x).2])]:=fun v w A H3 h1 h2 hd hg hv=>⟨_,H3,bt (.i .i64 v) (.i .i64 w) (.inr rfl) hd h1 h2,hg,fun _=>by rw[←hv]⟩;generalize E0:gM o x=r0 at fin;unfold gM at E0;refine qG (qA ae (qA h0 h1)) fun K hK=>?_;refine hK _ _ ?_;clear hK K;refine R1.gen (fun A1 H1=>Gr H H1∧H.nx<H1.nx∧H1.get H.nx=some (.arr [.i .i64 x.1,.o (.str x.2.1),.o (.str x.2.2.1),p,q] 84 0 0)∧slot A1.tm 0=.one (k)∧slot A1.tm 3=.one ((.o (.ptr H.nx 0 0 5)))∧A1.nt=24∧A1.dfr=[])
  ⟨(Fr.refl _).new _,?_⟩ ?_
 ·exact qZ h0
 rintro A1 H1 ⟨g1,m1,rx,t0,t3,B0,C0⟩;clear h0 h1 tm;obtain ⟨N,hN⟩:∃ N,N=H.nx:=⟨_,rfl⟩;rw[←hN] at m1 rx t3;have hk:=hk.gr g1;have hp:=hp.gr g1;have hq:=hq.gr g1;refine qG (qA ae (qA t0 (qA t3 (qA B0 (qA rx (qA m1 (qA hY (qA aT jV)))))))) fun K hK=>?_;refine WE.con (iy H1 k o x.2.2.1 hk hL) fun w H2 g2 ⟨c,hw,ha,V0⟩=>?_;subst hw;have rx:=(g2.get _ m1 zB2).trans rx;have m1:=zA0 m1 g2.nx;have hp:=hp.gr g2;have hq:=hq.gr g2;have g2:=g1.gr g2;refine qS (qA ae (qA B0 (qA dY (qA gC V0)))) ?_;refine hK _ _ ?_;clear hK K;obtain ⟨u,rfl,hu⟩:=ha.of;clear V0;refine R1.gen (fun A3 H3=>Gr H2 H3∧H2.nx<H3.nx∧H3.get H2.nx=some (.arr [.o (.str (bq o x.2.2.1).1),u] 97 0 0)∧slot A3.tm 3=.one ((.o (.ptr N 0 0 5)))∧slot A3.tm 6=.one ((.o (.ptr H2.nx 0 0 2)))∧slot A3.tm 7=.one (.i .i64 ((fH o x.2.2.1):Int))∧A3.nt=24∧A3.dfr=[])
  ⟨((Fr.refl _).new _).mod _ (.inl (zA1 _)),?_⟩ ?_
 ·exact qZ (qA t3 (qA B0 C0))
 clear t0 t3 B0 C0 A1;rintro A H3 ⟨g3,n3,rl,t3,t6,t7,B0,C0⟩;obtain ⟨M,hM⟩:∃ M,M=H2.nx:=⟨_,rfl⟩;rw[←hM] at rl n3 t6;clear hM;have rx:=(g3.get _ m1 zB2).trans rx;have m1:=zA0 m1 g3.nx;have hp:=hp.gr g3;have hq:=hq.gr g3;have hu:=hu.gr g3;have g3:=g2.gr g3;refine qW (qA ae (qA t7 B0)) ?_;generalize fH o x.2.2.1=e0 at E0 t7 ⊢;by_cases N0:e0=0
 case neg=>
  have ce:(e0==0)=false:=zB5 N0;rw[zB0 N0] at E0;refine qX ce ?_;refine qW (qA B0 t7) ?_;exact fin (0) (e0) _ _ qp qp (qd C0) (g3) (E0)
 rw[zB1 (fun h=>h N0)] at E0;have ce:(e0==0)=true:=by rw[N0];rfl
 refine qX ce ?_;refine R1.aY ?_;refine qG (qA ae (qA t3 (qA t6 (qA B0 (qA rx (qA m1 (qA rl (qA n3 (qA cW (qA my (qA lX Il))))))))))) fun K hK=>?_;refine WE.con (Ea H3 (bq o x.2.2.1).1 u p q (bq o x.2.2.1).2 x.2.2.2 hu hp hq) fun w H4 g4 hw=>?_;subst hw;refine qS (qA ae B0) ?_;refine hK _ _ ?_;clear hK K;refine qV ?_;exact fin ((ff (bq o x.2.2.1).1 (bq o x.2.2.1).2 x.2.2.2).1) ((ff (bq o x.2.2.1).1 (bq o x.2.2.1).2 x.2.2.2).2) _ _ qp qp (qd C0) (g3.gr g4) (E0)
def KS (acc:List Cl) (x:Cl):Bool:=acc.getLast?.any fun y=>decide (x.1≤y.1)
theorem Ig {l:List Cl} {i:Nat} {x y:Cl} (hi:0<i) (hy:l[i - 1]?=some y):KS (l.take i) x=decide (x.1≤y.1):=by
 have h:(l.take i).getLast?=some y:=by
  have D0:=(List.getElem?_eq_some_iff.1 hy).1;rw[List.getLast?_eq_getElem?,List.length_take,Nat.min_eq_left (by omega),List.getElem?_take,zB0 (by omega)];exact hy
 unfold KS;rw[h];rfl
def goC (o:Option (List Lad)):List Cl→List Cl→Int
 | _,[]=>0
 | acc,x::l=>if x.1<0 then 53 else if 255<x.1 then 53 else if KS acc x=true then 53 else if nmB x.2.1=false then 53 else if fH o x.2.2.1≠0 then 4 else if cC x.2.2.2≠0 then cC x.2.2.2 else goC o (acc++[x]) l
theorem ux (H:Hp) (k v:AC) (o:Option (List Lad)) (l:List Cl) (hk:bP H k o) (hL:∀ ls,o=some ls→∀ x∈ls,x.2.length≤1000000) (hv:iu H v l) (hB:l.length≤1000000):
  Con E2 115 [.one k,.one v] H (fun _=>False) fun r _=>r=.one (.i .i64 (goC o [] l)):=by
 refine Con.of rfl fun lg=>?_;have hk:bP ⟨H.t,H.nx,lg⟩ k o:=bP.same (H:=H) rfl rfl hk;have hv:iu ⟨H.t,H.nx,lg⟩ v l:=hv;generalize (⟨H.t,H.nx,lg⟩:Hp)=H at hk hv ⊢;refine C1.body (E:=E2) (nt:=62) (res:=[.tmp 4]) Tryz.func115 rfl rfl rfl rfl rfl fun tm A0=>?_;have h0:=A0 0 _ rfl;have h1:=A0 1 _ rfl;clear A0;have fin:∀ (e:Int) (A:ab) (H3:Hp),slot A.tm 4=.one (.i .i64 e)→A.dfr=[]→Gr H H3→e=goC o [] l→∃ w H4,aC E2 [.tmp 4] (.ret,A,H3)=.ok [(w,H4)]∧Gr H H4∧∀ _:List Nat,w=.one (.i .i64 (goC o [] l)):=fun e A H3 h1 h2 h3 h4=>⟨_,H3,aj (.i .i64 e) (.inr rfl) h2 h1,h3,fun _=>by rw[h4]⟩;generalize E0:goC o [] l=r0 at fin;refine qW (qA ae (qA h0 (qA h1 (qA gq (qA hv.len hv.lt))))) ?_;refine R1.aK fun K k1 k2 k3 k4=>?_;refine R1.loop (fun m A H2=>∃ i:Nat,m=l.length - i∧i≤l.length∧Gr H H2∧goC o (l.take i) (l.drop i)=r0∧slot A.tm 0=.one (k)∧slot A.tm 1=.one (v)∧slot A.tm 10=.one (v)∧slot A.tm 11=.one (.i .i64 (l.length:Int))∧slot A.tm 12=.one (.i .i64 (i:Int))∧A.nt=62∧A.dfr=[]) ?_ l.length ⟨0,rfl,Nat.zero_le _,Fr.refl _,E0,?_⟩
 ·clear h0 h1 tm;rintro m A H2 ⟨i,rfl,hi,g2,hr,t0,t1,t10,t11,t12,B0,C0⟩;have N2:=hv.gr g2;have X3:=hk.gr g2;refine qW (qA ae (qA t11 (qA t12 B0))) ?_;refine qE fun Kx Ky hx hy=>?_;refine dV (fun hc=>hx ?_) (fun hc=>hy ?_)
  ·clear hx hy Kx Ky;have D0:i<l.length:=by omega
   have ex:=zB4 D0;have O0:=zC1 D0;have Z0:=zC2 D0;have G0:l[i]∈l:=List.getElem_mem D0;generalize l[i]=x at ex O0 Z0 G0;have Q1:=zC0 i (by omega);obtain ⟨id,g,off,cells,rfl,hid,R0,J0⟩:=N2.open (by omega);obtain ⟨p,q,K0⟩:=J0 i x ex;rw[O0,goC] at hr;refine qV ?_;refine R1.aK fun K2 q1 q2 q3 q4=>?_;refine qG (qA ae (qA t10 (qA t12 (qA B0 (qA fq (qA pd (qA sN (qA pE (qA (ixC D0) (qA hid (qA R0 (qA K0.all K0.le)))))))))))) fun K hK=>?_;refine hK _ _ ?_;clear hK K;refine R1.gen (fun A3 H3=>Gr H2 H3∧H2.nx<H3.nx∧H3.get H2.nx=some (.arr [.i .i64 x.1,.o (.str x.2.1),.o (.str x.2.2.1),p,q] 84 0 0)∧slot A3.tm 0=.one (k)∧slot A3.tm 1=.one ((.o (.sl id g off l.length 5)))∧slot A3.tm 5=.one (.i .i64 (i:Int))∧slot A3.tm 6=.one ((.o (.ptr H2.nx 0 0 5)))∧slot A3.tm 10=.one ((.o (.sl id g off l.length 5)))∧slot A3.tm 11=.one (.i .i64 (l.length:Int))∧slot A3.tm 12=.one (.i .i64 (i:Int))∧A3.nt=62∧A3.dfr=[])
    ⟨((Fr.refl _).new _).mod _ (.inl (zA1 _)),?_⟩ ?_
   ·exact qZ (qA t0 (qA t1 (qA t10 (qA t11 (qA t12 (qA B0 C0))))))
   clear t0 t1 t10 t11 t12 B0 C0 A;rintro A H3 ⟨g3,n3,rx,t0,t1,t5,t6,t10,t11,t12,B0,C0⟩;obtain ⟨M,hM⟩:∃ M,M=H2.nx:=⟨_,rfl⟩;rw[←hM] at rx n3 t6;have y9:rowOf (H3.get id) g=some cells:=by rw[g3.get _ hid zB2];exact R0
   have x9:id<H3.nx:=zA0 hid g3.nx;have hk3:=X3.gr g3;have g13:=g2.gr g3;generalize S0:(if fH o x.2.2.1≠0 then 4 else if cC x.2.2.2≠0 then cC x.2.2.2 else goC o (l.take i++[x]) (l.drop (i+1)))=r1 at hr;repeat refine R1.au ?_
   (first|refine R1.AQ (by kernel_rfl) fun K hK=>?_|refine R1.EY (by kernel_rfl) fun K hK=>?_)
   have rest:∀ (b:Bool) (A4:ab) (H4:Hp),Gr H3 H4→(if b=true then 53 else r1)=r0→slot A4.tm 0=.one (k)∧slot A4.tm 1=.one ((.o (.sl id g off l.length 5)))∧slot A4.tm 6=.one ((.o (.ptr M 0 0 5)))∧slot A4.tm 10=.one ((.o (.sl id g off l.length 5)))∧slot A4.tm 11=.one (.i .i64 (l.length:Int))∧slot A4.tm 12=.one (.i .i64 (i:Int))∧slot A4.tm 45=.one (.b b)∧A4.nt=62∧A4.dfr=[]→K A4 H4:=by
    clear hr t0 t1 t5 t6 t10 t11 t12 B0 C0 A;rintro b A H4 g4 hr ⟨t0,t1,t6,t10,t11,t12,t45,B0,C0⟩;refine hK _ _ ?_;clear hK K;have rx:=(g4.get _ n3 zB2).trans rx;have n3:=zA0 n3 g4.nx;have hk4:=hk3.gr g4;have g14:=g13.gr g4;have g24:=g3.gr g4;clear g3;cases b with
    | true=>
     rw[zB0 rfl] at hr;refine qX t45 ?_;refine qW B0 ?_;exact q4 _ _ (k4 _ _ (fin (53) _ _ qp (qd C0) (g14) (hr)))
    | false=>
    rw[zB1 zA8,←S0] at hr;refine qX t45 ?_;refine R1.aY ?_;refine qG (qA ae (qA t0 (qA t6 (qA B0 (qA rx (qA n3 (qA hY (qA aT jV)))))))) fun K hK=>?_;refine WE.con (iy H4 k o x.2.2.1 hk4 hL) fun w H6 g6 ⟨c,hw,ha,V0⟩=>?_;subst hw;have rx:=(g6.get _ n3 zB2).trans rx;have n3:=zA0 n3 g6.nx;have g6:=g24.gr g6;refine qS (qA ae (qA B0 (qA dY (qA gC V0)))) ?_;refine hK _ _ ?_;clear hK K;refine R1.gen (fun A7 H7=>Gr H2 H7∧H7.get M=some (.arr [.i .i64 x.1,.o (.str x.2.1),.o (.str x.2.2.1),p,q] 84 0 0)∧M<H7.nx∧slot A7.tm 0=.one (k)∧slot A7.tm 1=.one ((.o (.sl id g off l.length 5)))∧slot A7.tm 6=.one ((.o (.ptr M 0 0 5)))∧slot A7.tm 8=.one (.i .i64 ((fH o x.2.2.1):Int))∧slot A7.tm 10=.one ((.o (.sl id g off l.length 5)))∧slot A7.tm 11=.one (.i .i64 (l.length:Int))∧slot A7.tm 12=.one (.i .i64 (i:Int))∧A7.nt=62∧A7.dfr=[])
     ⟨(g6.new _).mod _ (.inl g6.nx),?_,?_,?_⟩ ?_
    ·rw[aq (Nat.ne_of_lt n3),aM n3];exact rx
    ·exact Nat.lt_succ_of_lt n3
    ·repeat' (first|(simp only[aa,Nat.reduceEqDiff,reduceIte,ao,ai,t0,t1,t6,t10,t11,t12,B0,C0];first|done|rfl)|refine ⟨?_,?_⟩)
    clear t0 t1 t6 t10 t11 t12 t45 B0 C0 A;rintro A H7 ⟨g7,rx,n7,t0,t1,t6,t8,t10,t11,t12,B0,C0⟩;generalize fH o x.2.2.1=e0 at hr t8;by_cases N0:e0=0
    case neg=>
     have ce:(e0==0)=false:=zB5 N0;rw[zB0 N0] at hr;refine qW (qA ae (qA t8 (qA B0 ce))) ?_;refine qY ?_;refine qW B0 ?_;exact q4 _ _ (k4 _ _ (fin (4) _ _ qp (qd C0) (g2.gr g7) (hr)))
    rw[zB1 (fun h=>h N0)] at hr;have ce:(e0==0)=true:=by rw[N0];rfl
    refine qW (qA ae (qA t8 (qA B0 ce))) ?_;refine qY ?_;refine R1.aY ?_;have y_:=K0.of1.gr g7;have j8:=K0.of2.gr g7;refine qG (qA ae (qA t6 (qA B0 (qA rx (qA n7 (qA my (qA lX jc))))))) fun K hK=>?_;refine WE.con (hG H7 p q x.2.2.2 y_ j8) fun w H8 g8 hw=>?_;subst hw;have g8:=g7.gr g8;refine qS (qA ae B0) ?_;refine hK _ _ ?_;clear hK K;generalize cC x.2.2.2=e1 at hr ⊢;by_cases R4:e1=0
    case neg=>
     have ce:(e1==0)=false:=zB5 R4;rw[zB0 R4] at hr;refine qW (qA ae (qA B0 ce)) ?_;refine qY ?_;refine qW B0 ?_;exact q4 _ _ (k4 _ _ (fin (e1) _ _ qp (qd C0) (g2.gr g8) (hr)))
    rw[zB1 (fun h=>h R4),←Z0] at hr;have ce:(e1==0)=true:=by rw[R4];rfl
    refine qW (qA ae (qA B0 ce)) ?_;refine qY ?_;refine qW B0 ?_;refine q1 _ _ ?_;refine qW (qA B0 (qA t12 Q1)) ?_;refine ⟨l.length - (i+1),by omega,i+1,rfl,D0,g2.gr g8,hr,?_⟩;repeat' (first|(simp only[aa,Nat.reduceEqDiff,reduceIte,ao,ai,t0,t1,t10,t11,t12,B0,C0];first|done|rfl)|refine ⟨?_,?_⟩)
   clear hK;by_cases c0:x.1<0
   ·rw[zB0 c0] at hr;have c0:=eq_true c0;refine qS (qA ae (qA t6 (qA B0 (qA rx (qA n3 (qA fR (qA bu c0))))))) ?_;refine rest true _ _ (Fr.refl _) hr ?_;repeat' (first|(simp only[aa,Nat.reduceEqDiff,reduceIte,ao,ai,t0,t1,t6,t10,t11,t12,B0,C0];first|done|rfl)|refine ⟨?_,?_⟩)
   rw[zB1 c0] at hr;by_cases c1:255<x.1
   ·rw[zB0 c1] at hr;have c0:=eq_false c0;have c1:(256≤x.1)=True:=eq_true (by omega);refine qS (qA ae (qA t6 (qA B0 (qA rx (qA n3 (qA fR (qA bu (qA c0 c1)))))))) ?_;refine rest true _ _ (Fr.refl _) hr ?_;repeat' (first|(simp only[aa,Nat.reduceEqDiff,reduceIte,ao,ai,t0,t1,t6,t10,t11,t12,B0,C0];first|done|rfl)|refine ⟨?_,?_⟩)
   rw[zB1 c1] at hr;have c0:=eq_false c0;have c1:(256≤x.1)=False:=eq_false (by omega);by_cases E4:i=0
   ·have ci:((0:Int)<(i:Int))=False:=eq_false (by omega);rw[E4,List.take_zero,zB1 (by exact zA8)] at hr;refine qS (qA ae (qA t5 (qA t6 (qA B0 (qA rx (qA n3 (qA fR (qA mz (qA bu (qA aT (qA c0 (qA c1 (qA ci dP))))))))))))) ?_;refine WE.fh (ju x.2.1) fun H4 g4 n4 e4=>?_;refine qS (qA ae B0) ?_;refine rest (!nmB x.2.1) _ _ g4 ?_ ?_
    ·rw[←hr];cases nmB x.2.1 <;> rfl
    repeat' (first|(simp only[aa,Nat.reduceEqDiff,reduceIte,ao,ai,t0,t1,t6,t10,t11,t12,B0,C0];first|done|rfl)|refine ⟨?_,?_⟩)
   have ci:((0:Int)<(i:Int))=True:=eq_true (by omega);have G5:i - 1<l.length:=by omega
   have ey:l[i - 1]?=some l[i - 1]:=zB4 G5;have hpp:=fun x=>Ig (x:=x) (by omega) ey;generalize l[i - 1]=y at ey hpp;obtain ⟨p',q',F1⟩:=J0 (i - 1) y ey;have y5:IntKind.i64.wrap ((i:Int) - 1)=((i - 1:Nat):Int):=by rw[bx (by omega) (by omega)];omega
   rw[hpp x] at hr;by_cases c2:x.1≤y.1
   ·rw[zB0 (decide_eq_true c2)] at hr;have c2:=eq_true c2;refine qS (qA ae (qA t1 (qA t5 (qA t6 (qA B0 (qA rx (qA n3 (qA fR (qA bu (qA c0 (qA c1 (qA ci (qA c2 (qA y5 (qA fq (qA (ixC G5) (qA x9 (qA y9 (qA F1.f1 F1.le1))))))))))))))))))) ?_;refine rest true _ _ (Fr.refl _) hr ?_;repeat' (first|(simp only[aa,Nat.reduceEqDiff,reduceIte,ao,ai,t0,t1,t6,t10,t11,t12,B0,C0];first|done|rfl)|refine ⟨?_,?_⟩)
   rw[zB1 (by rw[decide_eq_true_eq];exact c2)] at hr;have c2:=eq_false c2;refine qS (qA ae (qA t1 (qA t5 (qA t6 (qA B0 (qA rx (qA n3 (qA fR (qA mz (qA bu (qA aT (qA c0 (qA c1 (qA ci (qA c2 (qA y5 (qA fq (qA (ixC G5) (qA x9 (qA y9 (qA F1.f1 (qA F1.le1 dP)))))))))))))))))))))) ?_;refine WE.fh (ju x.2.1) fun H4 g4 n4 e4=>?_;refine qS (qA ae B0) ?_;refine rest (!nmB x.2.1) _ _ g4 ?_ ?_
   ·rw[←hr];cases nmB x.2.1 <;> rfl
   repeat' (first|(simp only[aa,Nat.reduceEqDiff,reduceIte,ao,ai,t0,t1,t6,t10,t11,t12,B0,C0];first|done|rfl)|refine ⟨?_,?_⟩)
  clear hx hy Kx Ky;have S1:i=l.length:=by omega
  rw[S1,List.drop_length,goC] at hr;refine qW B0 ?_;refine k2 _ _ ?_;refine qW B0 ?_;exact fin (0) _ _ qp (qd C0) (g2) (hr)
 repeat' (first|(simp only[aa,Nat.reduceEqDiff,reduceIte,ao,ai,h0,h1];first|done|rfl)|refine ⟨?_,?_⟩)
end Go.Proofs.YtnhbkodnmkojpaaGreat
end

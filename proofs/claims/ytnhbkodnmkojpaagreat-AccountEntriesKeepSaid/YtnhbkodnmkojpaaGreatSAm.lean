/- A part of the proof: BkNum1, BkNum2, BkNum3, BkNum5, BkNum6, BkNum8, BkNum10, BkPz1, BkPz2, BkPz5, BkPzArg, BkFacts5, BkFacts9, BkAll. No conditions. -/
import Derived.Test.YtnhbkodnmkojpaaGreatSAl
import Derived.KernelRfl
set_option maxRecDepth 100000
set_option maxHeartbeats 64000000
set_option linter.unusedVariables false
set_option linter.unusedSimpArgs false
noncomputable section
namespace Go.Proofs.YtnhbkodnmkojpaaGreat
open Go Go.Eng
theorem xm:al Tryz.prog 118=true:=by kernel_rfl
theorem yU:al Tryz.prog 66=true:=by kernel_rfl
theorem oJ:al Tryz.prog 117=true:=by kernel_rfl
theorem te:al Tryz.prog 65=true:=by kernel_rfl
abbrev Gp:=Int×List UInt8×Bool
def gpC (x:Gp):List AC:=[.i .i64 x.1,.o (.str x.2.1),.b x.2.2]
theorem dP (x:Gp):gpC x=[.i .i64 x.1,.o (.str x.2.1),.b x.2.2]:=by unfold gpC;rfl
theorem VL (x:Gp):(gpC x).length=3:=rfl
def bB (H:Hp) (v:AC) (l:List Gp):Prop:=SlC H v 3 l.length (l.flatMap gpC)
theorem bB.gr {H H':Hp} {v:AC} {l:List Gp} (h:bB H v l) (hg:Gr H H'):bB H' v l:=SlC.gr h hg
theorem bB.len {H:Hp} {v:AC} {l:List Gp} (h:bB H v l):cG H 1 (.one v)=.val (.one (.i .i64 (l.length:Int))) H:=SlC.len h
theorem bB.lt {H:Hp} {v:AC} {l:List Gp} (h:bB H v l):ltV (.one v) H.nx:=lC h
theorem bB.nil {H:Hp}:bB H (.o .nilS) []:=⟨by simp,.inl ⟨rfl,rfl⟩⟩
structure GpAt (cells:List AC) (o:Nat) (x:Gp):Prop where
 all:(cells.drop o).take 3=gpC x
 le:o+3≤cells.length
 le1:o+1≤cells.length
 le2:o+1+1≤cells.length
 le3:o+2+1≤cells.length
 f1:(cells.drop o).headD (.b false)=.i .i64 x.1
 f2:(cells.drop (o+1)).headD (.b false)=.o (.str x.2.1)
 f3:(cells.drop (o+2)).headD (.b false)=.b x.2.2
theorem bB.open {H:Hp} {v:AC} {l:List Gp} (h:bB H v l) (hn:0<l.length):∃ id g off cells,v=.o (.sl id g off l.length 3)∧id<H.nx∧rowOf (H.get id) g=some cells∧∀ (i:Nat) (x:Gp),l[i]?=some x→GpAt cells (off+i*3) x:=by
 obtain ⟨id,g,off,h1,h2,hr⟩:=SlC.pos h hn;have Y2:=hr;obtain ⟨cells,h3,h6,h7⟩:=hr;refine ⟨id,g,off,cells,h1,h2,h3,fun i x hx=>?_⟩;obtain ⟨cells',k3,k6,k7⟩:=Rd.at (c:=gpC) VL Y2 hx;rw[h3] at k3;cases k3
 obtain ⟨a,b,c⟩:=WI k7;exact ⟨k7,k6,by omega,by omega,by omega,a,b,c⟩
def tU (x:Gp):Bool:=x.1==0&&(x.2.1==[]&&(x.2.2==false&&true))
def tT (l:List Gp):Bool:=l.any fun x=>tU x||x.2.2
theorem qv (H:Hp) (x:Gp):Con E2 118 [.agg (gpC x)] H (fun _=>False) fun r _=>r=.one (.b (tU x)):=by
 refine Con.of rfl fun lg=>?_;generalize (⟨H.t,H.nx,lg⟩:Hp)=H;refine C1.body (E:=E2) (nt:=6) (res:=[.tmp 2]) Tryz.func118 rfl rfl rfl rfl rfl fun tm A0=>?_;have h0:=A0 0 _ rfl;clear A0;repeat' first|refine R1.ret ?_|refine R1.exit ?_|refine R1.skip ?_|refine R1.mJ ?_|refine R1.iU ?_|refine R1.aA ?_|refine R1.bg ?_|refine R1.fD ?_|((first|refine R1.xA fun K hK=>?_|refine R1.oy fun K hK=>?_|refine R1.Br (by kernel_rfl) fun K hK=>?_|refine R1.xG (by kernel_rfl) fun K hK=>?_);simp only[qB,aq,Nat.reduceLT,Nat.reduceEqDiff,Nat.reduceLeDiff,reduceIte,Nat.reduceAdd,Nat.reduceSub,Nat.reduceMul,Int.reduceLT,Int.reduceLE,Int.reduceBEq,ae,h0,gpC,iu,nC,JJ,OK XG,Db,Df,De,rY];refine hK _ _ ?_;clear hK K)
 exact ⟨_,_,ai (.b (tU x)) (.inr rfl) rfl (by simp only[aa,Nat.reduceEqDiff,reduceIte,tU,id_eq]),(Fr.refl _).new _,fun _=>rfl⟩
theorem vh (H:Hp) (v:AC) (l:List Gp) (hv:bB H v l) (hL:l.length≤1000000):
  Con E2 66 [.one v] H (fun _=>False) fun r _=>r=.one (.b (tT l)):=by
 refine Con.of rfl fun lg=>?_;have hv:bB ⟨H.t,H.nx,lg⟩ v l:=hv;generalize (⟨H.t,H.nx,lg⟩:Hp)=H at hv ⊢;refine C1.body (E:=E2) (nt:=18) (res:=[.tmp 2]) Tryz.func66 rfl rfl rfl rfl rfl fun tm A0=>?_;have h0:=A0 0 _ rfl;clear A0;have fin:∀ (b:Bool) (A:ab) (H3:Hp),slot A.tm 2=.one (.b b)→A.dfr=[]→Gr H H3→b=tT l→∃ w H4,aC E2 [.tmp 2] (.ret,A,H3)=.ok [(w,H4)]∧Gr H H4∧∀ _:List Nat,w=.one (.b (tT l)):=fun b A H3 h1 h2 h3 h4=>⟨_,H3,ai (.b b) (.inr rfl) h2 h1,h3,fun _=>by rw[h4]⟩;generalize E0:tT l=r0 at fin;refine qW (qA ae (qA h0 (qA dY (qA hv.len hv.lt)))) ?_;refine R1.aU fun K k1 k2 k3 k4=>?_;refine R1.loop (fun k A H1=>∃ i:Nat,k=l.length - i∧i≤l.length∧Gr H H1∧tT (l.drop i)=r0∧slot A.tm 5=.one v∧slot A.tm 6=.one (.i .i64 (l.length:Int))∧slot A.tm 7=.one (.i .i64 (i:Int))∧A.nt=18∧A.dfr=[]) ?_ l.length
  ⟨0,rfl,Nat.zero_le _,Fr.refl _,E0,?_⟩
 ·clear h0 tm;rintro k A H1 ⟨i,rfl,hi,g1,hr,t5,t6,t7,B0,C0⟩;have D2:=hv.gr g1;refine qW (qA ae (qA t6 (qA t7 B0))) ?_;refine qE fun Kx Ky hx hy=>?_;refine di (fun hc=>hx ?_) (fun hc=>hy ?_)
  ·clear hx hy Kx Ky;have D0:i<l.length:=by omega
   obtain ⟨id,g,off,cells,rfl,hid,T0,O0⟩:=D2.open (by omega);have ex:=zB4 D0;have Z0:=zC1 D0;generalize l[i]=x at ex Z0;have V0:=O0 i x ex;have J1:=zC0 i (by omega);rw[Z0,tT,List.any_cons] at hr;refine qV ?_;refine R1.aU fun K2 q1 q2 q3 q4=>?_;refine qG (qA ae (qA t5 (qA t7 (qA B0 (qA iG (qA iu (qA sj (qA nC (qA (ixC D0) (qA hid (qA T0 (qA V0.all (qA V0.le dP))))))))))))) fun K hK=>?_;refine hK _ _ ?_;clear hK K;refine R1.gen (fun A3 H3=>Gr H1 H3∧H1.nx<H3.nx∧H3.get H1.nx=some (.arr (gpC x) 181 0 0)∧slot A3.tm 4=.one (.o (.ptr H1.nx 0 0 3))∧slot A3.tm 5=.one (.o (.sl id g off l.length 3))∧slot A3.tm 6=.one (.i .i64 (l.length:Int))∧slot A3.tm 7=.one (.i .i64 (i:Int))∧A3.nt=18∧A3.dfr=[])
    ⟨((Fr.refl _).new _).mod _ (.inl (zA1 _)),?_⟩ ?_
   ·exact qZ (qA t5 (qA t6 (qA t7 (qA B0 (qA C0 dP)))))
   clear t5 t6 t7 B0 C0 A;rintro A H3 ⟨g3,n3,rx,t4,t5,t6,t7,B0,C0⟩;refine qG (qA ae (qA t4 (qA B0 (qA rx (qA n3 (qA iu (qA dP xm))))))) fun K hK=>?_;refine WE.con (qv H3 x) fun w H4 g4 hw=>?_;subst hw;have rx:H4.get H1.nx=some (.arr (gpC x) 181 0 0):=by rw[g4.get _ n3 zB2];exact rx
   have n4:H1.nx<H4.nx:=zA0 n3 g4.nx;have g4':=g1.gr (g3.gr g4);cases hgp:tU x with
   | true=>
    rw[hgp,Bool.true_or,Bool.true_or] at hr;refine qS (qA ae B0) ?_;refine hK _ _ ?_;clear hK K;refine qY ?_;refine qW B0 ?_;exact q4 _ _ (k4 _ _ (fin true _ _ qp (qd C0) g4' hr))
   | false=>
    rw[hgp,Bool.false_or] at hr;refine qS (qA ae (qA B0 (qA t4 (qA rx (qA n4 (qA dP (qA mP pF))))))) ?_;refine hK _ _ ?_;clear hK K;cases hbr:x.2.2 with
    | true=>
     rw[hbr,Bool.true_or] at hr;refine qY ?_;refine qW B0 ?_;exact q4 _ _ (k4 _ _ (fin true _ _ qp (qd C0) g4' hr))
    | false=>
     rw[hbr,Bool.false_or] at hr;refine qY ?_;refine qW B0 ?_;refine q1 _ _ ?_;refine qW (qA B0 (qA t7 J1)) ?_;refine ⟨l.length - (i+1),by omega,i+1,rfl,D0,g4',hr,?_,?_,?_,?_,?_⟩
     ·simp only[aa,Nat.reduceEqDiff,reduceIte,t5]
     ·simp only[aa,Nat.reduceEqDiff,reduceIte,t6]
     ·simp only[aa,Nat.reduceEqDiff,reduceIte]
     ·simp only[aE,B0]
     simp only[ak,C0]
  clear hx hy Kx Ky;have E3:i=l.length:=by omega
  rw[E3,List.drop_length] at hr;refine qW B0 ?_;refine k2 _ _ ?_;refine qW B0 ?_;exact fin false _ _ qp (qd C0) g1 hr
 simp only[aa,Nat.reduceEqDiff,reduceIte,aE,ak,h0,and_self,true_and];exact ⟨rfl,trivial⟩
def Sb (l:List Gp) (s:List UInt8):Bool:=l.any fun x=>x.2.1==s
theorem UD {E:Env} {r:Option Nat} {z:Code} {A:ab} {H:Hp} {Q:ax→ab→Hp→Prop} {i:Nat} (h:R1 E r z A H Q):R1 E r (.seq (.label i) z) A H Q:=R1.seq ⟨0,_,_,_,rfl,h⟩
def Vd (acc:List Gp):Bool:=acc.getLast?.any tU
def eP (less:Bool):List Gp→List Gp→Int
 | _,[]=>0
 | acc,x::l=>
  if tU x=true then
   if less=true then 24 else if Vd acc=true then 5 else eP less (acc++[x]) l
  else if nmB x.2.1=false then 20 else if x.1<1∨(99:Int)<x.1 then 21 else if Sb acc x.2.1=true then 22 else if (less&&x.2.2)=true then 24 else eP less (acc++[x]) l
theorem Oy {l:List Gp} {i:Nat} {y:Gp} (hi:0<i) (hy:l[i - 1]?=some y):Vd (l.take i)=tU y:=by
 have h:(l.take i).getLast?=some y:=by
  have D0:=(List.getElem?_eq_some_iff.1 hy).1;rw[List.getLast?_eq_getElem?,List.length_take,Nat.min_eq_left (by omega),List.getElem?_take,zB0 (by omega)];exact hy
 unfold Vd;rw[h];rfl
theorem ng (H:Hp) (v:AC) (l:List Gp) (less:Bool) (hv:bB H v l) (hL:l.length≤1000000):
  Con E2 117 [.one v,.one (.b less)] H (fun _=>False) fun r _=>r=.one (.i .i64 (eP less [] l)):=by
 refine Con.of rfl fun lg=>?_;have hv:bB ⟨H.t,H.nx,lg⟩ v l:=hv;generalize (⟨H.t,H.nx,lg⟩:Hp)=H at hv ⊢;refine C1.body (E:=E2) (nt:=69) (res:=[.tmp 4]) Tryz.func117 rfl rfl rfl rfl rfl fun tm A0=>?_;have h0:=A0 0 _ rfl;have h1:=A0 1 _ rfl;clear A0;have fin:∀ (e:Int) (A:ab) (H3:Hp),slot A.tm 4=.one (.i .i64 e)→A.dfr=[]→Gr H H3→e=eP less [] l→∃ w H4,aC E2 [.tmp 4] (.ret,A,H3)=.ok [(w,H4)]∧Gr H H4∧∀ _:List Nat,w=.one (.i .i64 (eP less [] l)):=fun e A H3 h1 h2 h3 h4=>⟨_,H3,ai (.i .i64 e) (.inr rfl) h2 h1,h3,fun _=>by rw[h4]⟩;generalize E0:eP less [] l=r0 at fin;refine qW (qA ae (qA h0 (qA dY (qA hv.len hv.lt)))) ?_;refine R1.scope (UD ?_);refine qW (qA ae (qA h0 (qA dY (qA hv.len hv.lt)))) ?_;refine R1.aU fun K k1 k2 k3 k4=>?_;refine R1.loop (fun k A H1=>∃ i:Nat,k=l.length - i∧i≤l.length∧Gr H H1∧eP less (l.take i) (l.drop i)=r0∧slot A.tm 0=.one v∧slot A.tm 1=.one (.b less)∧slot A.tm 9=.one v∧slot A.tm 10=.one (.i .i64 (l.length:Int))∧slot A.tm 11=.one (.i .i64 (i:Int))∧A.nt=69∧A.dfr=[]) ?_ l.length
  ⟨0,rfl,Nat.zero_le _,Fr.refl _,E0,?_⟩
 ·clear h0 h1 tm;rintro k A H1 ⟨i,rfl,hi,g1,hr,t0,t1,t9,t10,t11,B0,C0⟩;have D2:=hv.gr g1;refine qW (qA ae (qA t10 (qA t11 B0))) ?_;refine qE fun Kx Ky hx hy=>?_;refine di (fun hc=>hx ?_) (fun hc=>hy ?_)
  ·clear hx hy Kx Ky;have D0:i<l.length:=by omega
   obtain ⟨id,g,off,cells,rfl,hid,T0,O0⟩:=D2.open (by omega);have ex:=zB4 D0;have Z0:=zC1 D0;have U2:=zC2 D0;generalize l[i]=x at ex Z0 U2;have V0:=O0 i x ex;have J1:=zC0 i (by omega);rw[Z0,eP] at hr;refine qV ?_;refine R1.aU fun K2 q1 q2 q3 q4=>?_;refine qG (qA ae (qA t9 (qA t11 (qA B0 (qA iG (qA iu (qA sj (qA nC (qA (ixC D0) (qA hid (qA T0 (qA V0.all (qA V0.le dP))))))))))))) fun K hK=>?_;refine hK _ _ ?_;clear hK K;refine R1.gen (fun A3 H3=>Gr H1 H3∧H1.nx<H3.nx∧H3.get H1.nx=some (.arr (gpC x) 181 0 0)∧slot A3.tm 0=.one (.o (.sl id g off l.length 3))∧slot A3.tm 1=.one (.b less)∧slot A3.tm 5=.one (.i .i64 (i:Int))∧slot A3.tm 6=.one (.o (.ptr H1.nx 0 0 3))∧slot A3.tm 9=.one (.o (.sl id g off l.length 3))∧slot A3.tm 10=.one (.i .i64 (l.length:Int))∧slot A3.tm 11=.one (.i .i64 (i:Int))∧A3.nt=69∧A3.dfr=[])
    ⟨((Fr.refl _).new _).mod _ (.inl (zA1 _)),?_⟩ ?_
   ·exact qZ (qA t0 (qA t1 (qA t9 (qA t10 (qA t11 (qA B0 (qA C0 dP)))))))
   clear t0 t1 t9 t10 t11 B0 C0 A;rintro A H3 ⟨g3,n3,rx,t0,t1,t5,t6,t9,t10,t11,B0,C0⟩;have next:∀ (A2:ab) (H2:Hp),Gr H3 H2→eP less (l.take (i+1)) (l.drop (i+1))=r0→slot A2.tm 0=slot A.tm 0→slot A2.tm 1=slot A.tm 1→slot A2.tm 9=slot A.tm 9→slot A2.tm 10=slot A.tm 10→slot A2.tm 11=slot A.tm 11→A2.nt=69→A2.dfr=[] →
     K2 .normal A2 H2∧K2 (.exit 1) A2 H2:=by
    intro A2 H2 g2 hr s0 s1 s9 s10 s11 hn hd;have g2':Gr H H2:=g1.gr (g3.gr g2);rw[t0] at s0;rw[t1] at s1;rw[t9] at s9;rw[t10] at s10;rw[t11] at s11;refine ⟨q1 _ _ ?_,q2 _ _ ?_⟩
    ·refine qW (qA hn (qA s11 J1)) ?_;refine ⟨l.length - (i+1),by omega,i+1,rfl,D0,g2',hr,?_,?_,?_,?_,?_,?_,?_⟩
     ·simp only[aa,Nat.reduceEqDiff,reduceIte,s0]
     ·simp only[aa,Nat.reduceEqDiff,reduceIte,s1]
     ·simp only[aa,Nat.reduceEqDiff,reduceIte,s9]
     ·simp only[aa,Nat.reduceEqDiff,reduceIte,s10]
     ·simp only[aa,Nat.reduceEqDiff,reduceIte]
     ·simp only[aE,hn]
     simp only[ak,hd]
    refine qW (qA hn (qA s11 J1)) ?_;refine ⟨l.length - (i+1),by omega,i+1,rfl,D0,g2',hr,?_,?_,?_,?_,?_,?_,?_⟩
    ·simp only[aa,Nat.reduceEqDiff,reduceIte,s0]
    ·simp only[aa,Nat.reduceEqDiff,reduceIte,s1]
    ·simp only[aa,Nat.reduceEqDiff,reduceIte,s9]
    ·simp only[aa,Nat.reduceEqDiff,reduceIte,s10]
    ·simp only[aa,Nat.reduceEqDiff,reduceIte]
    ·simp only[aE,hn]
    simp only[ak,hd]
   clear q1 q2;rw[←U2] at hr;refine R1.aU fun K3 p1 p2 p3 p4=>?_;refine qG (qA ae (qA t6 (qA B0 (qA rx (qA n3 (qA iu (qA dP xm))))))) fun K hK=>?_;refine WE.con (qv H3 x) fun w H4 g4 hw=>?_;subst hw;have rx4:H4.get H1.nx=some (.arr (gpC x) 181 0 0):=by rw[g4.get _ n3 zB2];exact rx
   have n4:H1.nx<H4.nx:=zA0 n3 g4.nx;have g4':=g1.gr (g3.gr g4);cases hgp:tU x with
   | true=>
    rw[zB0 hgp] at hr;refine qS (qA ae (qA B0 t1)) ?_;refine hK _ _ ?_;clear hK K;cases less with
    | true=>
     rw[zB0 rfl] at hr;refine qY ?_;refine qW B0 ?_;exact p4 _ _ (q4 _ _ (k4 _ _ (fin 24 _ _ qp (qd C0) g4' hr)))
    | false=>
     rw[zB1 zA8] at hr;refine qY ?_;refine qG (qA ae (qA t6 (qA B0 (qA rx4 (qA n4 (qA iu (qA dP xm))))))) fun K hK=>?_;refine WE.con (qv H4 x) fun w H5 g5 hw=>?_;subst hw;have g35:Gr H3 H5:=g4.gr g5;have g5':Gr H H5:=g4'.gr g5;refine qS (qA ae (qA B0 hgp)) ?_;refine hK _ _ ?_;clear hK K;refine qY ?_;by_cases T3:i=0
     ·have c0:((0:Int)<(i:Int))=False:=eq_false (by omega);rw[T3,List.take_zero,zB1 (by exact zA8),←T3] at hr;refine qW (qA ae (qA t5 (qA B0 c0))) ?_;refine qY ?_;refine qV ?_;exact p3 1 _ _ (by decide) (next _ _ g35 hr qp qp qp qp qp (by simp only[aE,B0]) (qd C0)).2
     have c0:((0:Int)<(i:Int))=True:=eq_true (by omega);have hlt3:i - 1<l.length:=by omega
     have ey:l[i - 1]?=some l[i - 1]:=zB4 hlt3;have hgpp:=Oy (by omega) ey;generalize l[i - 1]=y at ey hgpp;have C2:=O0 (i - 1) y ey;have Q7:IntKind.i64.wrap ((i:Int) - 1)=((i - 1:Nat):Int):=by rw[au (by omega) (by omega)];omega
     have O9:id<H5.nx:=zA0 hid (g3.gr g35).nx;have hgr5:rowOf (H5.get id) g=some cells:=by rw[(g3.gr g35).get _ hid zB2];exact T0
     rw[hgpp] at hr;refine qG (qA ae (qA t0 (qA t5 (qA B0 (qA c0 (qA Q7 (qA iG (qA iu (qA (ixC hlt3) (qA O9 (qA hgr5 (qA C2.all (qA C2.le (qA dP xm)))))))))))))) fun K hK=>?_;refine WE.con (qv H5 y) fun w H6 g6 hw=>?_;subst hw;have g36:Gr H3 H6:=g35.gr g6;have g6':Gr H H6:=g5'.gr g6;cases hgy:tU y with
     | true=>
      rw[hgy,zB0 rfl] at hr;refine qS (qA ae B0) ?_;refine hK _ _ ?_;clear hK K;refine qY ?_;refine qW B0 ?_;exact p4 _ _ (q4 _ _ (k4 _ _ (fin 5 _ _ qp (qd C0) g6' hr)))
     | false=>
      rw[hgy,zB1 zA8] at hr;refine qS (qA ae B0) ?_;refine hK _ _ ?_;clear hK K;refine qY ?_;refine qV ?_;exact p3 1 _ _ (by decide) (next _ _ g36 hr qp qp qp qp qp (by simp only[aE,B0]) (qd C0)).2
   | false=>
    rw[zB1 (by rw[hgp];exact zA8)] at hr;refine qS (qA ae (qA B0 t1)) ?_;refine hK _ _ ?_;clear hK K;refine qY ?_;refine qG (qA ae (qA t6 (qA B0 (qA rx4 (qA n4 (qA iu (qA dP xm))))))) fun K hK=>?_;refine WE.con (qv H4 x) fun w H5 g5 hw=>?_;subst hw;have rx5:H5.get H1.nx=some (.arr (gpC x) 181 0 0):=by rw[g5.get _ n4 zB2];exact rx4
    have n5:H1.nx<H5.nx:=zA0 n4 g5.nx;have g35:Gr H3 H5:=g4.gr g5;have g5':Gr H H5:=g4'.gr g5;refine qS (qA ae (qA B0 hgp)) ?_;refine hK _ _ ?_;clear hK K;refine qY ?_;refine qG (qA ae (qA t6 (qA B0 (qA rx5 (qA n5 (qA kh (qA aQ (qA dP eG)))))))) fun K hK=>?_;refine WE.fE (mI x.2.1) fun H6 g6 nn6 e6=>?_;have rx6:H6.get H1.nx=some (.arr (gpC x) 181 0 0):=(e6 _).trans rx5;have n6:H1.nx<H6.nx:=by rw[nn6];exact n5
    have g36:Gr H3 H6:=g35.gr g6;have g6':Gr H H6:=g5'.gr g6;cases N8:nmB x.2.1 with
    | false=>
     rw[zB0 N8] at hr;refine qS (qA ae B0) ?_;refine hK _ _ ?_;clear hK K;refine qY ?_;refine qW B0 ?_;exact p4 _ _ (q4 _ _ (k4 _ _ (fin 20 _ _ qp (qd C0) g6' hr)))
    | true=>
     rw[zB1 (by rw[N8];decide)] at hr;refine qS (qA ae B0) ?_;refine hK _ _ ?_;clear hK K;refine qY ?_;by_cases C9:x.1<1
     ·have c1:(x.1<1)=True:=eq_true C9;rw[zB0 (.inl C9)] at hr;refine qW (qA ae (qA t6 (qA B0 (qA rx6 (qA n6 (qA iT (qA cD (qA dP c1)))))))) ?_;refine qY ?_;refine qW B0 ?_;exact p4 _ _ (q4 _ _ (k4 _ _ (fin 21 _ _ qp (qd C0) g6' hr)))
     have c1:(x.1<1)=False:=eq_false C9;by_cases V5:(99:Int)<x.1
     ·have c2:((99:Int)<x.1)=True:=eq_true V5;rw[zB0 (.inr V5)] at hr;refine qW (qA ae (qA t6 (qA B0 (qA rx6 (qA n6 (qA iT (qA cD (qA dP (qA c1 c2))))))))) ?_;refine qY ?_;refine qW B0 ?_;exact p4 _ _ (q4 _ _ (k4 _ _ (fin 21 _ _ qp (qd C0) g6' hr)))
     have c2:((99:Int)<x.1)=False:=eq_false V5;rw[zB1 (fun h=>h.elim C9 V5)] at hr;refine qW (qA ae (qA t6 (qA B0 (qA rx6 (qA n6 (qA iT (qA cD (qA dP (qA c1 c2))))))))) ?_;refine qY ?_;refine qW B0 ?_;refine p1 _ _ ?_;have N9:id<H6.nx:=zA0 hid (g3.gr g36).nx;have hgr6:rowOf (H6.get id) g=some cells:=by rw[(g3.gr g36).get _ hid zB2];exact T0
     generalize hrb:Sb (l.take i) x.2.1=rb at hr;have B4:(l.take i).length=i:=by rw[List.length_take];omega
     refine qG (qA ae (qA t0 (qA t5 (qA B0 (qA iG (qA dY (qA (slH (Nat.le_of_lt D0)) N9))))))) fun K hK=>?_;refine hK _ _ ?_;clear hK K;refine R1.aU fun K4 u1 u2 u3 u4=>?_;refine R1.loop (fun k A2 H2=>∃ j:Nat,k=i - j∧j≤i∧Gr H6 H2∧Sb ((l.take i).drop j) x.2.1=rb∧slot A2.tm 0=.one (.o (.sl id g off l.length 3))∧slot A2.tm 1=.one (.b less)∧slot A2.tm 6=.one (.o (.ptr H1.nx 0 0 3))∧slot A2.tm 9=.one (.o (.sl id g off l.length 3))∧slot A2.tm 10=.one (.i .i64 (l.length:Int))∧slot A2.tm 11=.one (.i .i64 (i:Int))∧slot A2.tm 51=.one (.o (.sl id g off i 3))∧slot A2.tm 52=.one (.i .i64 (i:Int))∧slot A2.tm 53=.one (.i .i64 (j:Int))∧A2.nt=69∧A2.dfr=[]) ?_ i
      ⟨0,rfl,Nat.zero_le _,Fr.refl _,by rw[List.drop_zero];exact hrb,?_⟩
     ·rintro k A2 H2 ⟨j,rfl,hj,g2,I0,s0,s1,s6,s9,s10,s11,s51,s52,s53,hn,hd⟩;have rx2:H2.get H1.nx=some (.arr (gpC x) 181 0 0):=by rw[g2.get _ n6 zB2];exact rx6
      have n2:H1.nx<H2.nx:=zA0 n6 g2.nx;have U':id<H2.nx:=zA0 N9 g2.nx;have hgr2:rowOf (H2.get id) g=some cells:=by rw[g2.get _ N9 zB2];exact hgr6
      have g2':Gr H H2:=g6'.gr g2;refine qW (qA ae (qA s52 (qA s53 hn))) ?_;refine qE fun Kx Ky hx hy=>?_;refine di (fun hc=>hx ?_) (fun hc=>hy ?_)
      ·clear hx hy Kx Ky;have hjt:j<i:=by omega
       have hjt':j<(l.take i).length:=by omega
       have hdr2:(l.take i).drop j=(l.take i)[j]::(l.take i).drop (j+1):=List.drop_eq_getElem_cons hjt';have ey:l[j]?=some (l.take i)[j]:=by rw[List.getElem_take];exact zB4 (by omega)
       generalize (l.take i)[j]=y at hdr2 ey;have C2:=O0 j y ey;have hw4:=zC0 j (by omega);rw[hdr2,Sb,List.any_cons] at I0;refine qV ?_;refine R1.aU fun K5 w1 w2 w3 w4=>?_;refine qG (qA ae (qA s51 (qA s53 (qA hn (qA iG (qA iu (qA sj (qA nC (qA (ixC hjt) (qA U' (qA hgr2 (qA C2.all (qA C2.le dP))))))))))))) fun K hK=>?_;refine hK _ _ ?_;clear hK K;refine R1.gen (fun A3 H7=>Gr H2 H7∧H2.nx<H7.nx∧H7.get H2.nx=some (.arr (gpC y) 181 0 0)∧slot A3.tm 8=.one (.o (.ptr H2.nx 0 0 3))∧slot A3.tm 0=.one (.o (.sl id g off l.length 3))∧slot A3.tm 1=.one (.b less)∧slot A3.tm 6=.one (.o (.ptr H1.nx 0 0 3))∧slot A3.tm 9=.one (.o (.sl id g off l.length 3))∧slot A3.tm 10=.one (.i .i64 (l.length:Int))∧slot A3.tm 11=.one (.i .i64 (i:Int))∧slot A3.tm 51=.one (.o (.sl id g off i 3))∧slot A3.tm 52=.one (.i .i64 (i:Int))∧slot A3.tm 53=.one (.i .i64 (j:Int))∧A3.nt=69∧A3.dfr=[])
        ⟨((Fr.refl _).new _).mod _ (.inl (zA1 _)),?_⟩ ?_
       ·exact qZ (qA s0 (qA s1 (qA s6 (qA s9 (qA s10 (qA s11 (qA s51 (qA s52 (qA s53 (qA hn (qA hd dP)))))))))))
       clear s0 s1 s6 s9 s10 s11 s51 s52 s53 hn hd A2;rintro A2 H7 ⟨g7,n7,ry,s8,s0,s1,s6,s9,s10,s11,s51,s52,s53,hn,hd⟩;have rx7:H7.get H1.nx=some (.arr (gpC x) 181 0 0):=by rw[g7.get _ n2 zB2];exact rx2
       have n17:H1.nx<H7.nx:=zA0 n2 g7.nx;have g7':Gr H H7:=g2'.gr g7;cases cs:(y.2.1==x.2.1) with
       | true=>
        rw[cs,Bool.true_or] at I0;rw[←I0,zB0 rfl] at hr;refine qW (qA ae (qA s8 (qA s6 (qA hn (qA ry (qA n7 (qA rx7 (qA n17 (qA dP (qA kh aQ)))))))))) ?_;refine qE fun Kx Ky hx hy=>?_;rw[cM,cs];refine hx ?_;clear hx hy Kx Ky;refine qW hn ?_;exact w4 _ _ (u4 _ _ (q4 _ _ (k4 _ _ (fin 22 _ _ qp (by simp only[ak,hd]) g7' hr))))
       | false=>
        rw[cs,Bool.false_or] at I0;refine qW (qA ae (qA s8 (qA s6 (qA hn (qA ry (qA n7 (qA rx7 (qA n17 (qA dP (qA kh aQ)))))))))) ?_;refine qE fun Kx Ky hx hy=>?_;rw[cM,cs];refine hy ?_;clear hx hy Kx Ky;refine qW hn ?_;refine w1 _ _ ?_;refine qW (qA hn (qA s53 hw4)) ?_;refine ⟨i - (j+1),by omega,j+1,rfl,hjt,g2.gr g7,I0,?_,?_,?_,?_,?_,?_,?_,?_,?_,?_,?_⟩
        ·simp only[aa,Nat.reduceEqDiff,reduceIte,s0]
        ·simp only[aa,Nat.reduceEqDiff,reduceIte,s1]
        ·simp only[aa,Nat.reduceEqDiff,reduceIte,s6]
        ·simp only[aa,Nat.reduceEqDiff,reduceIte,s9]
        ·simp only[aa,Nat.reduceEqDiff,reduceIte,s10]
        ·simp only[aa,Nat.reduceEqDiff,reduceIte,s11]
        ·simp only[aa,Nat.reduceEqDiff,reduceIte,s51]
        ·simp only[aa,Nat.reduceEqDiff,reduceIte,s52]
        ·simp only[aa,Nat.reduceEqDiff,reduceIte]
        ·simp only[aE,hn]
        simp only[ak,hd]
      clear hx hy Kx Ky;have hje:(l.take i).drop j=[]:=List.drop_eq_nil_of_le (by omega);rw[hje] at I0;rw[←I0,zB1 (by exact zA8)] at hr;refine qW hn ?_;refine u2 _ _ ?_;cases less with
      | false=>
       rw[zB1 (by exact zA8)] at hr;refine qW (qA ae (qA s1 hn)) ?_;refine qY ?_;refine qW hn ?_;exact (next _ _ (g36.gr g2) hr (by simp only[aa,Nat.reduceEqDiff,reduceIte,s0,t0]) (by simp only[aa,Nat.reduceEqDiff,reduceIte,s1,t1]) (by simp only[aa,Nat.reduceEqDiff,reduceIte,s9,t9]) (by simp only[aa,Nat.reduceEqDiff,reduceIte,s10,t10]) (by simp only[aa,Nat.reduceEqDiff,reduceIte,s11,t11]) (by simp only[aE,hn]) (by simp only[ak,hd])).1
      | true=>
       cases hbr:x.2.2 with
       | true=>
        rw[hbr,zB0 (by rfl)] at hr;refine qW (qA ae (qA s1 (qA s6 (qA hn (qA rx2 (qA n2 (qA dP (qA mP (qA pF hbr))))))))) ?_;refine qY ?_;refine qW hn ?_;exact q4 _ _ (k4 _ _ (fin 24 _ _ qp (by simp only[ak,hd]) g2' hr))
       | false=>
        rw[hbr,zB1 (by exact zA8)] at hr;refine qW (qA ae (qA s1 (qA s6 (qA hn (qA rx2 (qA n2 (qA dP (qA mP (qA pF hbr))))))))) ?_;refine qY ?_;refine qW hn ?_;exact (next _ _ (g36.gr g2) hr (by simp only[aa,Nat.reduceEqDiff,reduceIte,s0,t0]) (by simp only[aa,Nat.reduceEqDiff,reduceIte,s1,t1]) (by simp only[aa,Nat.reduceEqDiff,reduceIte,s9,t9]) (by simp only[aa,Nat.reduceEqDiff,reduceIte,s10,t10]) (by simp only[aa,Nat.reduceEqDiff,reduceIte,s11,t11]) (by simp only[aE,hn]) (by simp only[ak,hd])).1
     simp only[aa,Nat.reduceEqDiff,reduceIte,aE,ak,t0,t1,t6,t9,t10,t11,B0,C0,and_self,true_and];exact ⟨rfl,trivial⟩
  clear hx hy Kx Ky;have E3:i=l.length:=by omega
  rw[E3,List.drop_length,eP] at hr;refine qW B0 ?_;refine k2 _ _ ?_;refine qW B0 ?_;exact fin 0 _ _ qp (qd C0) g1 hr
 simp only[aa,Nat.reduceEqDiff,reduceIte,aE,ak,h0,h1,and_self,true_and];exact ⟨rfl,trivial⟩
abbrev Nm:=List Gp×List Gp
def fl (x:Nm):Int:=
 if (24:Int)<x.1.length∨(24:Int)<x.2.length then 3 else if x.1.length=0 then 5 else
 if eP false [] x.1≠0 then eP false [] x.1 else if eP true [] x.2≠0 then eP true [] x.2 else
 if (0<x.2.length∧tT x.1=true) then 24 else 0
theorem qn (H:Hp) (u w:AC) (x:Nm) (hu:bB H u x.1) (hw:bB H w x.2):
  Con E2 65 [.agg [u,w]] H (fun _=>False) fun r _=>r=.one (.i .i64 (fl x)):=by
 refine Con.of rfl fun lg=>?_;have hu:bB ⟨H.t,H.nx,lg⟩ u x.1:=hu;have hw:bB ⟨H.t,H.nx,lg⟩ w x.2:=hw;generalize (⟨H.t,H.nx,lg⟩:Hp)=H at hu hw ⊢;refine C1.body (E:=E2) (nt:=40) (res:=[.tmp 2]) Tryz.func65 rfl rfl rfl rfl rfl fun tm A0=>?_;have h0:=A0 0 _ rfl;clear A0;have fin:∀ (e:Int) (A:ab) (H3:Hp),slot A.tm 2=.one (.i .i64 e)→A.dfr=[]→Gr H H3→e=fl x→∃ w H4,aC E2 [.tmp 2] (.ret,A,H3)=.ok [(w,H4)]∧Gr H H4∧∀ _:List Nat,w=.one (.i .i64 (fl x)):=fun e A H3 h1 h2 h3 h4=>⟨_,H3,ai (.i .i64 e) (.inr rfl) h2 h1,h3,fun _=>by rw[h4]⟩;generalize E0:fl x=r0 at fin;unfold fl at E0;refine qG (qA ae h0) fun K hK=>?_;refine hK _ _ ?_;clear hK K;refine R1.gen (fun A1 H1=>Gr H H1∧H.nx<H1.nx∧H1.get H.nx=some (.arr [u,w] 66 0 0)∧slot A1.tm 1=.one (.o (.ptr H.nx 0 0 2))∧A1.nt=40∧A1.dfr=[])
  ⟨(Fr.refl _).new _,?_⟩ ?_
 ·exact qZ h0
 rintro A1 H1 ⟨g1,n1,rx,t1,B0,C0⟩;clear h0 tm;have G2:=hu.gr g1;have D4:=hw.gr g1;by_cases h24:(24:Int)<x.1.length
 ·have c24:((24:Int)<x.1.length)=True:=eq_true h24;rw[zB0 (.inl h24)] at E0;refine qW (qA ae (qA t1 (qA B0 (qA rx (qA n1 (qA cF (qA cP (qA dY (qA G2.len (qA G2.lt c24)))))))))) ?_;refine qY ?_;refine qW B0 ?_;exact fin 3 _ _ qp (qd C0) g1 E0
 have c24:((24:Int)<x.1.length)=False:=eq_false h24;by_cases h25:(24:Int)<x.2.length
 ·have c25:((24:Int)<x.2.length)=True:=eq_true h25;rw[zB0 (.inr h25)] at E0;refine qW (qA ae (qA t1 (qA B0 (qA rx (qA n1 (qA cF (qA dN (qA cP (qA dY (qA G2.len (qA G2.lt (qA D4.len (qA D4.lt (qA c24 c25)))))))))))))) ?_;refine qY ?_;refine qW B0 ?_;exact fin 3 _ _ qp (qd C0) g1 E0
 have c25:((24:Int)<x.2.length)=False:=eq_false h25;rw[zB1 (fun h=>h.elim h24 h25)] at E0;refine qW (qA ae (qA t1 (qA B0 (qA rx (qA n1 (qA cF (qA dN (qA cP (qA dY (qA G2.len (qA G2.lt (qA D4.len (qA D4.lt (qA c24 c25)))))))))))))) ?_;refine qY ?_;by_cases hz:x.1.length=0
 ·have cz:((x.1.length:Int)==0)=true:=by rw[hz];rfl
  rw[zB0 hz] at E0;refine qW (qA ae (qA t1 (qA B0 (qA rx (qA n1 (qA cF (qA cP (qA dY (qA G2.len (qA G2.lt cz)))))))))) ?_;refine qY ?_;refine qW B0 ?_;exact fin 5 _ _ qp (qd C0) g1 E0
 have cz:((x.1.length:Int)==0)=false:=zB5 (by omega);rw[zB1 hz] at E0;refine qW (qA ae (qA t1 (qA B0 (qA rx (qA n1 (qA cF (qA cP (qA dY (qA G2.len (qA G2.lt cz)))))))))) ?_;refine qY ?_;refine R1.bg ?_;refine qG (qA ae (qA t1 (qA B0 (qA rx (qA n1 (qA cF (qA cP oJ))))))) fun K hK=>?_;refine WE.con (ng H1 u x.1 false G2 (by omega)) fun r H2 g2 hr=>?_;subst hr;have rx2:H2.get H.nx=some (.arr [u,w] 66 0 0):=by rw[g2.get _ n1 zB2];exact rx
 have n2:H.nx<H2.nx:=zA0 n1 g2.nx;have g2':=g1.gr g2;refine qS (qA ae B0) ?_;refine hK _ _ ?_;clear hK K;generalize eP false [] x.1=e1 at E0 ⊢;by_cases z6:e1=0
 case neg=>
  have ce:(e1 != 0)=true:=bne_iff_ne.2 z6;rw[zB0 z6] at E0;refine qW (qA ae (qA B0 ce)) ?_;refine qE fun Kx Ky hx hy=>?_;refine di (fun _=>hx ?_) (fun h=>absurd ce (by simpa using h));clear hx hy Kx Ky;refine qW B0 ?_;exact fin e1 _ _ qp (qd C0) g2' E0
 rw[zB1 (fun h=>h z6)] at E0;refine qW (qA ae (qA B0 z6)) ?_;refine qY ?_;refine R1.bg ?_;refine qG (qA ae (qA t1 (qA B0 (qA rx2 (qA n2 (qA dN (qA cP oJ))))))) fun K hK=>?_;refine WE.con (ng H2 w x.2 true (D4.gr g2) (by omega)) fun r H3 g3 hr=>?_;subst hr;have rx3:H3.get H.nx=some (.arr [u,w] 66 0 0):=by rw[g3.get _ n2 zB2];exact rx2
 have n3:H.nx<H3.nx:=zA0 n2 g3.nx;have g3':=g2'.gr g3;have R7:=(G2.gr g2).gr g3;have Q7:=(D4.gr g2).gr g3;refine qS (qA ae B0) ?_;refine hK _ _ ?_;clear hK K;generalize eP true [] x.2=e2 at E0 ⊢;by_cases o7:e2=0
 case neg=>
  have ce:(e2 != 0)=true:=bne_iff_ne.2 o7;rw[zB0 o7] at E0;refine qW (qA ae (qA B0 ce)) ?_;refine qE fun Kx Ky hx hy=>?_;refine di (fun _=>hx ?_) (fun h=>absurd ce (by simpa using h));clear hx hy Kx Ky;refine qW B0 ?_;exact fin e2 _ _ qp (qd C0) g3' E0
 rw[zB1 (fun h=>h o7)] at E0;refine qW (qA ae (qA B0 o7)) ?_;refine qY ?_;refine R1.bg ?_;by_cases hp:0<x.2.length
 ·have cp:((0:Int)<x.2.length)=True:=eq_true (by omega);refine qG (qA ae (qA t1 (qA B0 (qA rx3 (qA n3 (qA cF (qA dN (qA cP (qA dY (qA R7.lt (qA Q7.len (qA Q7.lt (qA cp yU))))))))))))) fun K hK=>?_;refine WE.con (vh H3 u x.1 R7 (by omega)) fun r H4 g4 hr=>?_;subst hr;have g4':=g3'.gr g4;refine qS (qA ae B0) ?_;refine hK _ _ ?_;clear hK K;cases hb:tT x.1 with
  | true=>
   rw[zB0 ⟨hp,hb⟩] at E0;refine qY ?_;refine qW B0 ?_;exact fin 24 _ _ qp (qd C0) g4' E0
  | false=>
   rw[zB1 (fun h=>by rw[hb] at h;cases h.2)] at E0;refine qY ?_;refine qW B0 ?_;exact fin 0 _ _ qp (qd C0) g4' E0
 have cp:((0:Int)<x.2.length)=False:=eq_false (by omega);rw[zB1 (fun h=>hp h.1)] at E0;refine qW (qA ae (qA t1 (qA B0 (qA rx3 (qA n3 (qA cF (qA dN (qA cP (qA dY (qA R7.lt (qA Q7.len (qA Q7.lt cp)))))))))))) ?_;refine qY ?_;refine qW B0 ?_;exact fin 0 _ _ qp (qd C0) g3' E0
theorem Ro:al Tryz.prog 122=true:=by kernel_rfl
theorem pN {E:Env} {s s':Tmp} {t t':TypeId} {A:ab} {H H2:Hp} {e:ax} {id id' g g':Nat} {c c':AC} (ht:loadT E.P t=some (false,1)) (ht':loadT E.P t'=some (false,1)) (he:e=.normal∨e=.ret) (hd:closeAll H A.dfr=some H2)
  (hs:slot A.tm s=.one (.o (.ptr id g 0 1))) (a7:slot A.tm s'=.one (.o (.ptr id' g' 0 1))) (hg:rowOf (H2.get id) g=some [c]) (M1:rowOf (H2.get id') g'=some [c']):
  aC E [.cell s t,.cell s' t'] (e,A,H)=.ok [(.tup [(false,[c]),(false,[c'])],H2)]:=by
 have one:∀ (s:Tmp) (t:TypeId) (id g:Nat) (c:AC),loadT E.P t=some (false,1)→slot A.tm s=.one (.o (.ptr id g 0 1))→rowOf (H2.get id) g=some [c]→jy E.P (.cell s t) A.tm H2=some (false,[c]):=fun s t id g c ht hs hg=>by
  have e0:jy E.P (.cell s t)=match loadT E.P t with
    | some p=>fun tm h=>ay (tm.get s) none fun v=>ad.rec (motive:=fun _=>Option (Bool×List AC)) (fun v _=>fB v) (fun _=>none) (fun _ _=>none) (fun _ _=>none) (fun _=>none) (bR h p.1 p.2 v)
    | none=>fun _ _=>none:=rfl
  rw[e0,ht];show ay (A.tm.get s) none (fun v=>ad.rec (motive:=fun _=>Option (Bool×List AC)) (fun v _=>fB v) (fun _=>none) (fun _ _=>none) (fun _ _=>none) (fun _=>none) (bR H2 false 1 v))=_;rw[tY hs];show ad.rec (motive:=fun _=>Option (Bool×List AC)) (fun v _=>fB v) (fun _=>none) (fun _ _=>none) (fun _ _=>none) (fun _=>none) (bR H2 false 1 (.one (.o (.ptr id g 0 1))))=_;rw[fi,hg,uj (zA1 _) (by simp)];rfl
 have key:(ay (closeAll H A.dfr) (R.bad "marks") fun h2=>ay (bh E.P [.cell s t,.cell s' t'] A.tm h2) (.bad "results") fun l=>.ok [(cT l,h2)])=.ok [(.tup [(false,[c]),(false,[c'])],H2)]:=by
  rw[hd];have hr:bh E.P [.cell s t,.cell s' t'] A.tm H2=some [(false,[c]),(false,[c'])]:=by
   show ay (jy E.P (.cell s t) A.tm H2) none (fun x=>ay (ay (jy E.P (.cell s' t') A.tm H2) none fun x=>ay (some []) none fun l=>some (x::l)) none fun l=>some (x::l))=_;rw[one s t id g c ht hs hg,one s' t' id' g' c' ht' a7 M1];rfl
  show ay (bh E.P [.cell s t,.cell s' t'] A.tm H2) (R.bad "results") (fun l=>R.ok [(cT l,H2)])=_
  rw[hr];rfl
 rcases he with rfl|rfl
 ·exact key
 exact key
def CB:List (Pr×Int)→List UInt8→Int×Int
 | [],_=>(0,11)
 | y::ys,s=>if y.1.1=s then (y.2,0) else CB ys s
def hU (n:List UInt8) (us:List Pr) (s:List UInt8):Int×Int:=if bN n us≠0 then (0,bN n us) else CB (yv 1 us) s
theorem Oo (H:Hp) (n:List UInt8) (u:AC) (us:List Pr) (s:List UInt8) (hu:SlP H u us):
  Con E2 122 [.agg [.o (.str n),u],.one (.o (.str s))] H (fun _=>False) fun r _=>r=.tup [(false,[.i .i64 (hU n us s).1]),(false,[.i .i64 (hU n us s).2])]:=by
 refine Con.of rfl fun lg=>?_;have hu:SlP ⟨H.t,H.nx,lg⟩ u us:=hu;generalize (⟨H.t,H.nx,lg⟩:Hp)=H at hu ⊢;refine C1.body (E:=E2) (nt:=23) (res:=[.cell 4 3,.cell 5 38]) Tryz.func122 rfl rfl rfl rfl rfl fun tm A0=>?_;have h0:=A0 0 _ rfl;have h1:=A0 1 _ rfl;clear A0;refine qG (qA ae (qA h0 (qA h1 (qA qK sw)))) fun K hK=>?_;refine hK _ _ ?_;clear hK K;have J4:∀ id∈(AV.one u).ids,id<H.nx:=hu.lt;refine R1.gen (fun A1 H1=>Gr H H1∧H.nx+3<H1.nx∧H1.get H.nx=some (.arr [.o (.str n),u] 97 0 0)∧H1.get (H.nx+1)=some (.arr [.o (.str s)] 9 0 0)∧H1.get (H.nx+1+1)=some (.arr [.i .i64 0] 3 0 0)∧H1.get (H.nx+1+1+1)=some (.arr [.i .i64 0] 38 0 0)∧slot A1.tm 2=.one (.o (.ptr H.nx 0 0 2))∧slot A1.tm 3=.one (.o (.ptr (H.nx+1) 0 0 1))∧slot A1.tm 4=.one (.o (.ptr (H.nx+1+1) 0 0 1))∧slot A1.tm 5=.one (.o (.ptr (H.nx+1+1+1) 0 0 1))∧A1.nt=23∧A1.dfr=[])
  ⟨((((Fr.refl _).new _).new _).new _).new _,?_⟩ ?_
 ·refine qT ?_;rw[aZ (by show H.nx<H.nx+1+1+1;omega),aZ (by show H.nx<H.nx+1+1;omega),aZ (by show H.nx<H.nx+1;omega)];exact aG rfl
 rintro A1 H1 ⟨g1,n1,r1,r2,r4,r5,t2,t3,t4,t5,B0,C0⟩;clear h0 h1 tm;have G2:SlP H1 u us:=hu.gr g1;obtain ⟨c1,x_⟩:∃ c,c=H.nx:=⟨_,rfl⟩;obtain ⟨c2,I'⟩:∃ c,c=H.nx+1:=⟨_,rfl⟩;obtain ⟨c4,hc4⟩:∃ c,c=H.nx+1+1:=⟨_,rfl⟩;obtain ⟨c5,hc5⟩:∃ c,c=H.nx+1+1+1:=⟨_,rfl⟩;rw[←hc5] at r5 t5;rw[←hc4] at r4 t4;rw[←I'] at r2 t3;rw[←x_] at r1 t2 J4;have o12:c1<c2:=by omega
 have o24:c2<c4:=by omega
 have o45:c4<c5:=by omega
 have o5:c5<H1.nx:=by omega
 have X4:H.nx≤c1:=by omega
 clear hc5 hc4 I' n1;have l1:c1<H1.nx:=by omega
 have l2:c2<H1.nx:=by omega
 have l4:c4<H1.nx:=by omega
 have fin:∀ (e:ax) (A:ab) (H2 H3:Hp) (v w:Int),(e=.normal∨e=.ret)→closeAll H2 A.dfr=some H3→Gr H H3→slot A.tm 4=.one (.o (.ptr c4 0 0 1))→slot A.tm 5=.one (.o (.ptr c5 0 0 1))→H3.get c4=some (.arr [.i .i64 v] 3 0 0)→H3.get c5=some (.arr [.i .i64 w] 38 0 0)→(v,w)=hU n us s →
   ∃ w H4,aC E2 [.cell 4 3,.cell 5 38] (e,A,H2)=.ok [(w,H4)]∧Gr H H4∧∀ _:List Nat,w=.tup [(false,[.i .i64 (hU n us s).1]),(false,[.i .i64 (hU n us s).2])]:=fun e A H2 H3 v w he hd hg hs a7 hr Y2 hv=>
  ⟨_,H3,pN (c:=.i .i64 v) (c':=.i .i64 w) cD rn he hd hs a7 (by rw[hr];exact cy (zA1 _) (zA1 _)) (by rw[Y2];exact cy (zA1 _) (zA1 _)),hg,fun _=>by rw[←hv]⟩
 generalize E0:hU n us s=r0 at fin;unfold hU at E0;repeat refine R1.aA ?_
 refine qG (qA ae (qA t2 (qA B0 (qA r1 (qA l1 (qA da vX)))))) fun K hK=>?_;refine WE.con (sD H1 n u us G2) fun v H2 g2 hv=>?_;subst hv;have r1:H2.get c1=some (.arr [.o (.str n),u] 97 0 0):=by rw[g2.get _ l1 zB2];exact r1
 have r2:H2.get c2=some (.arr [.o (.str s)] 9 0 0):=by rw[g2.get _ l2 zB2];exact r2
 have r4:H2.get c4=some (.arr [.i .i64 0] 3 0 0):=by rw[g2.get _ l4 zB2];exact r4
 have r5:H2.get c5=some (.arr [.i .i64 0] 38 0 0):=by rw[g2.get _ o5 zB2];exact r5
 have o5:c5<H2.nx:=zA0 o5 g2.nx;have l1:c1<H2.nx:=by omega
 have l2:c2<H2.nx:=by omega
 have l4:c4<H2.nx:=by omega
 have O3:=G2.gr g2;have g2:=g1.gr g2;have hlen:=@lh n us;refine qS (qA ae B0) ?_;refine hK _ _ ?_;clear hK K;generalize bN n us=e0 at E0 hlen ⊢;by_cases T2:e0=0
 case neg=>
  have ce:(e0 != 0)=true:=bne_iff_ne.2 T2;rw[zB0 T2] at E0;refine qW (qA ae (qA B0 ce)) ?_;refine qE fun Kx Ky hx hy=>?_;refine di (fun _=>hx ?_) (fun h=>absurd ce (by simpa using h));clear hx hy Kx Ky;repeat' first|refine R1.ret ?_|refine R1.exit ?_|refine R1.skip ?_|refine R1.mJ ?_|refine R1.iU ?_|refine R1.aA ?_|refine R1.bg ?_|refine R1.fD ?_|((first|refine R1.xA fun K hK=>?_|refine R1.oy fun K hK=>?_|refine R1.Br (by kernel_rfl) fun K hK=>?_|refine R1.xG (by kernel_rfl) fun K hK=>?_);simp only[qB,aq,Nat.reduceLT,Nat.reduceEqDiff,Nat.reduceLeDiff,reduceIte,Nat.reduceAdd,Nat.reduceSub,Nat.reduceMul,Int.reduceLT,Int.reduceLE,Int.reduceBEq,ae,t4,t5,B0,rX,dI,r4,r5,l4,o5,az (Nat.ne_of_gt o45)];refine hK _ _ ?_;clear hK K)
  exact fin .ret _ _ _ 0 e0 (.inr rfl) (by simp only[ak,C0];rfl) ((g2.mod _ (.inl (by omega))).mod _ (.inl (by omega))) (by simp only[aa,Nat.reduceEqDiff,reduceIte,t4]) (by simp only[aa,Nat.reduceEqDiff,reduceIte,t5]) (by rw[az (by omega)];exact aj rfl) (aj rfl) E0
 rw[zB1 (fun h=>h T2)] at E0;have hlen:=hlen T2;refine qW (qA ae (qA B0 T2)) ?_;refine qY ?_;refine R1.bg ?_;repeat refine R1.aA ?_
 refine qG (qA ae (qA t2 (qA B0 (qA r1 (qA l1 (qA da Fg)))))) fun K hK=>?_;refine WE.con (yi H2 (.o (.str n)) u O3.lt) fun v H5 g5 ⟨hv,hil,hln⟩=>?_;subst hv;refine qS (qA ae B0) ?_;refine hK _ _ ?_;clear hK K;refine R1.Jj (fun A4=>slot A4.tm 3=.one (.o (.ptr c2 0 0 1))∧slot A4.tm 4=.one (.o (.ptr c4 0 0 1))∧slot A4.tm 5=.one (.o (.ptr c5 0 0 1))∧slot A4.tm 15=.one (.o (.clo 170 [(H2.nx,0,0,2)]))∧A4.nt=23∧A4.dfr=[])
  ⟨by simp only[aa,Nat.reduceEqDiff,reduceIte,t3],by simp only[aa,Nat.reduceEqDiff,reduceIte,t4],by simp only[aa,Nat.reduceEqDiff,reduceIte,t5],by simp only[aa,Nat.reduceEqDiff,reduceIte],by simp only[aE,B0],by simp only[ak,C0]⟩ ?_
 clear t2 t3 t4 t5 B0 C0 A1;rintro A ⟨t3,t4,t5,t15,B0,C0⟩;have gg:Gr H H5:=g2.gr g5;have r2:H5.get c2=some (.arr [.o (.str s)] 9 0 0):=by rw[g5.get _ l2 zB2];exact r2
 have r4:H5.get c4=some (.arr [.i .i64 0] 3 0 0):=by rw[g5.get _ l4 zB2];exact r4
 have r5:H5.get c5=some (.arr [.i .i64 0] 38 0 0):=by rw[g5.get _ o5 zB2];exact r5
 have T9:SlP H5 u us:=O3.gr g5;obtain ⟨il,T'⟩:∃ i,i=H2.nx:=⟨_,rfl⟩;rw[←T'] at hil hln t15 o5 l1 l2 l4;clear T';generalize Z7:yv 1 us=ys at E0;have hyl:ys.length≤us.length:=by rw[←Z7];exact Bw 1 us
 refine R1.aU fun K k1 k2 k3 k4=>?_;refine R1.range (σ:=Unit) (g:=170) (caps:=[(il,0,0,2)]) (n:=ys.length) (ar:=yA ys) (D:=DL il u) (by simp only[Ku,t15]) xZ (fun _=>rfl)
  (zD H5 il (.o (.str n)) u us hln hil T9 (by omega) ys Z7) (fun k hk=>by
   rcases hk with h|h
   ·omega
   exact Nat.lt_trans (J4 k h) (by omega)) (by rw[B0];rfl) (fun i _=>PQ ys i)
  (fun i _ H6=>H6.get c2=some (.arr [.o (.str s)] 9 0 0)∧H6.get c4=some (.arr [.i .i64 0] 3 0 0)∧H6.get c5=some (.arr [.i .i64 0] 38 0 0)∧CB (ys.drop i) s=r0∧H5.nx≤H6.nx)
  (fun e _ H6=>e=.ret∧H6.get c4=some (.arr [.i .i64 r0.1] 3 0 0)∧H6.get c5=some (.arr [.i .i64 r0.2] 38 0 0)∧H5.nx≤H6.nx)
  (fun _ k=>k=c4∨k=c5) ?_ ?_ ?_ () ?_ ?_ ?_ ?_
 ·rintro i _ H6 H7 ⟨a1,a2,a3,a4,a5⟩ hs;exact ⟨by rw[hs.get _ (by omega) (by omega)];exact a1,by rw[hs.get _ (by omega) (by omega)];exact a2,by rw[hs.get _ (by omega) (by omega)];exact a3,a4,zA2 a5 hs.nx⟩
 ·rintro e _ H6 H7 ⟨a1,a2,a3,a5⟩ hs;exact ⟨a1,by rw[hs.get _ (by omega) (by omega)];exact a2,by rw[hs.get _ (by omega) (by omega)];exact a3,zA2 a5 hs.nx⟩
 ·rintro i _ H6 k ⟨a1,a2,a3,a4,a5⟩ hk;have:k<H5.nx∧c1<k∧k<il:=by rcases hk with rfl|rfl <;> omega
  refine ⟨by omega,by omega,by omega,fun h=>?_⟩;rcases h with h|h
  ·omega
  have:=J4 k h;omega
 ·intro H6 g6 n6;exact ⟨by rw[g6.get _ (by omega) zB2];exact r2,by rw[g6.get _ (by omega) zB2];exact r4,by rw[g6.get _ (by omega) zB2];exact r5,by rw[List.drop_zero];exact E0,g6.nx⟩
 ·rintro i _ H6 hi ⟨a1,a2,a3,a4,a5⟩ n6;have hy:ys[i]?=some ys[i]:=zB4 hi;have Z0:ys.drop i=ys[i]::ys.drop (i+1):=List.drop_eq_getElem_cons hi;generalize ys[i]=y at hy Z0;rw[Z0,CB] at a4;rw[Rf hy];obtain ⟨x,yval⟩:=y;refine R1.Jj (fun A7=>slot A7.tm 3=.one (.o (.ptr c2 0 0 1))∧slot A7.tm 4=.one (.o (.ptr c4 0 0 1))∧slot A7.tm 5=.one (.o (.ptr c5 0 0 1))∧slot A7.tm 16=.agg (prC x)∧slot A7.tm 17=.one (.i .i64 yval)∧A7.nt=23∧A7.dfr=[]) ⟨?_,?_,?_,?_,?_,B0,rfl⟩ ?_
  ·show slot ((A.tm.set 16 _).set 17 _) 3=_;simp only[fH,Nat.reduceEqDiff,reduceIte,t3]
  ·show slot ((A.tm.set 16 _).set 17 _) 4=_;simp only[fH,Nat.reduceEqDiff,reduceIte,t4]
  ·show slot ((A.tm.set 16 _).set 17 _) 5=_;simp only[fH,Nat.reduceEqDiff,reduceIte,t5]
  ·show slot ((A.tm.set 16 _).set 17 _) 16=_;simp only[fH,Nat.reduceEqDiff,reduceIte]
  ·show slot ((A.tm.set 16 _).set 17 _) 17=_;simp only[fH,Nat.reduceEqDiff,reduceIte]
  rintro A7 ⟨u3,u4,u5,u16,u17,unt,udf⟩;refine qW (qA ae (qA u16 (qA u17 (qA unt (qA lT (qA ot eB)))))) ?_;refine ⟨rfl,((Fr.refl _).new _).mod _ (.inl (zA1 _)),fun H8 n8 s8=>?_⟩;have gu:H8.get H6.nx=some (.arr (prC x) 165 0 0):=by
   rw[s8.get _ (by show H6.nx<H6.nx+1;omega) (by omega)];exact aj rfl
  have keep:∀ k,k<H5.nx→H8.get k=H6.get k:=fun k hk=>by
   rw[s8.get _ (by show k<H6.nx+1;omega) (by omega),az (by omega),aZ (by omega)]
  have n8':H8.nx=H6.nx+1:=n8;have b2:H8.get c2=some (.arr [.o (.str s)] 9 0 0):=(keep c2 (by omega)).trans a1;have b4:H8.get c4=some (.arr [.i .i64 0] 3 0 0):=(keep c4 (by omega)).trans a2;have b5:H8.get c5=some (.arr [.i .i64 0] 38 0 0):=(keep c5 (by omega)).trans a3;have lu:H6.nx<H8.nx:=by omega
  have m2:c2<H8.nx:=by omega
  have m4:c4<H8.nx:=by omega
  have m5:c5<H8.nx:=by omega
  refine R1.uq fun K2 p1 p2 p3 p4=>?_;repeat refine R1.aA ?_
  by_cases m6:x.1=s
  ·rw[zB0 m6] at a4;have cs:(x.1==s)=true:=beq_iff_eq.2 m6;refine qW (qA ae (qA u3 (qA unt (qA gu (qA lu (qA b2 (qA m2 (qA bK (qA aQ eB))))))))) ?_;refine qE fun Kx Ky hx hy=>?_;rw[cM,cs];refine hx ?_;clear hx hy Kx Ky;repeat' first|refine R1.ret ?_|refine R1.exit ?_|refine R1.skip ?_|refine R1.mJ ?_|refine R1.iU ?_|refine R1.aA ?_|refine R1.bg ?_|refine R1.fD ?_|((first|refine R1.xA fun K hK=>?_|refine R1.oy fun K hK=>?_|refine R1.Br (by kernel_rfl) fun K hK=>?_|refine R1.xG (by kernel_rfl) fun K hK=>?_);simp only[qB,aq,Nat.reduceLT,Nat.reduceEqDiff,Nat.reduceLeDiff,reduceIte,Nat.reduceAdd,Nat.reduceSub,Nat.reduceMul,Int.reduceLT,Int.reduceLE,Int.reduceBEq,ae,u4,u5,unt,rX,dI,b4,b5,m4,m5,az (Nat.ne_of_gt o45)];refine hK _ _ ?_;clear hK K)
   refine p4 _ _ ⟨by simp only[ak,udf],((Fr.refl _).mod _ (.inr (.inl (.inl rfl)))).mod _ (.inr (.inl (.inr rfl))),(),fun h=>(by cases h),fun _=>⟨rfl,?_,?_,by show H5.nx≤H8.nx;omega⟩,fun k hk=>.inl hk⟩
   ·rw[az (by omega),←a4];exact aj rfl
   rw[←a4];exact aj rfl
  rw[zB1 m6] at a4;have cs:(x.1==s)=false:=zB5 m6;refine qW (qA ae (qA u3 (qA unt (qA gu (qA lu (qA b2 (qA m2 (qA bK (qA aQ eB))))))))) ?_;refine qE fun Kx Ky hx hy=>?_;rw[cM,cs];refine hy ?_;clear hx hy Kx Ky;refine qV ?_;refine p1 _ _ ⟨by simp only[ak,udf],Fr.refl _,(),fun _=>⟨b2,b4,b5,a4,by omega⟩,fun h=>absurd rfl h,fun k hk=>.inl hk⟩
 ·rintro s' H6 ⟨a1,a2,a3,a4,a5⟩ n6 hd6 e8 I6;have g6:Gr H H6:=gg.then e8 fun k hk=>.inl (by rcases hk with rfl|rfl <;> omega);have m4:c4<H6.nx:=by omega
  have m5:c5<H6.nx:=by omega
  rw[List.drop_length,CB] at a4;refine k1 _ _ ?_;refine R1.Jj (fun A7=>slot A7.tm 4=.one (.o (.ptr c4 0 0 1))∧slot A7.tm 5=.one (.o (.ptr c5 0 0 1))∧A7.nt=23∧A7.dfr=[H5.nx]) ⟨t4,t5,B0,by show H5.nx::A.dfr=_;rw[C0]⟩ ?_;rintro A7 ⟨u4,u5,unt,udf⟩;repeat' first|refine R1.ret ?_|refine R1.exit ?_|refine R1.skip ?_|refine R1.mJ ?_|refine R1.iU ?_|refine R1.aA ?_|refine R1.bg ?_|refine R1.fD ?_|((first|refine R1.xA fun K hK=>?_|refine R1.oy fun K hK=>?_|refine R1.Br (by kernel_rfl) fun K hK=>?_|refine R1.xG (by kernel_rfl) fun K hK=>?_);simp only[qB,aq,Nat.reduceLT,Nat.reduceEqDiff,Nat.reduceLeDiff,reduceIte,Nat.reduceAdd,Nat.reduceSub,Nat.reduceMul,Int.reduceLT,Int.reduceLE,Int.reduceBEq,ae,u4,u5,unt,rX,dI,a2,a3,m4,m5,az (Nat.ne_of_gt o45)];refine hK _ _ ?_;clear hK K)
  refine fin .ret _ _ _ 0 11 (.inr rfl) (by simp only[ak,udf];exact iO (by rw[az (by omega),az (by omega)];exact hd6)) (((g6.mod _ (.inl (by omega))).mod _ (.inl (by omega))).mod _ (.inl (by have:=gg.nx;omega))) (by simp only[aa,Nat.reduceEqDiff,reduceIte,u4]) (by simp only[aa,Nat.reduceEqDiff,reduceIte,u5]) (by rw[az (by omega),az (by omega)];exact aj rfl) (by rw[az (by omega)];exact aj rfl) a4
 rintro e s' H6 Y0 ⟨rfl,a2,a3,a5⟩ n6 hd6 e8 I6;have g6:Gr H H6:=gg.then e8 fun k hk=>.inl (by rcases hk with rfl|rfl <;> omega);exact k4 _ _ (fin .ret _ _ _ _ _ (.inr rfl) (by show closeAll H6 (H5.nx::A.dfr)=_;rw[C0];exact iO hd6) (g6.mod _ (.inl (by have:=gg.nx;omega))) t4 t5 (by rw[az (by omega)];exact a2) (by rw[az (by omega)];exact a3) rfl)
theorem EP:al Tryz.prog 145=true:=by kernel_rfl
theorem xD {E:Env} {s t q:Tmp} {A:ab} {H:Hp} {e:ax} (c d f:AC) (he:e=.normal∨e=.ret) (hd:A.dfr=[]) (hs:slot A.tm s=.one c) (ht:slot A.tm t=.one d) (hq:slot A.tm q=.one f):aC E [.tmp s,.tmp t,.tmp q] (e,A,H)=.ok [(.tup [(false,[c]),(false,[d]),(false,[f])],H)]:=by
 have key:(ay (closeAll H A.dfr) (R.bad "marks") fun h2=>ay (bh E.P [.tmp s,.tmp t,.tmp q] A.tm h2) (.bad "results") fun l=>.ok [(cT l,h2)])=.ok [(.tup [(false,[c]),(false,[d]),(false,[f])],H)]:=by
  rw[hd];have hr:bh E.P [.tmp s,.tmp t,.tmp q] A.tm H=some [(false,[c]),(false,[d]),(false,[f])]:=by
   show ay (ay (A.tm.get s) none fB) none (fun x=>ay (ay (ay (A.tm.get t) none fB) none fun x=>ay (ay (ay (A.tm.get q) none fB) none fun x=>ay (some []) none fun l=>some (x::l)) none fun l=>some (x::l)) none fun l=>some (x::l))=_;rw[tY hs,tY ht,tY hq];rfl
  show ay (bh E.P [.tmp s,.tmp t,.tmp q] A.tm H) (R.bad "results") (fun l=>R.ok [(cT l,H)])=_
  rw[hr];rfl
 rcases he with rfl|rfl
 ·exact key
 exact key
def ee (n:List UInt8) (us:List Pr):Bool→Int→Int→List Gp→Int×Int×Int
 | _,sum,last,[]=>(sum,last,0)
 | later,sum,last,g::l=>
  if (hU n us g.2.1).2≠0 then (0,0,(hU n us g.2.1).2) else if later=true∧last≤(hU n us g.2.1).1 then (0,0,22) else
  ee n us true (IntKind.i64.wrap (sum+IntKind.i64.wrap (g.1*(hU n us g.2.1).1))) (hU n us g.2.1).1 l
theorem AS (H:Hp) (n:List UInt8) (u v:AC) (us:List Pr) (l:List Gp) (hu:SlP H u us) (hv:bB H v l) (hL:l.length≤1000000):
  Con E2 145 [.agg [.o (.str n),u],.one v] H (fun _=>False) fun r _=>r=.tup [(false,[.i .i64 (ee n us false 0 0 l).1]),(false,[.i .i64 (ee n us false 0 0 l).2.1]),(false,[.i .i64 (ee n us false 0 0 l).2.2])]:=by
 refine Con.of rfl fun lg=>?_;have hu:SlP ⟨H.t,H.nx,lg⟩ u us:=hu;have hv:bB ⟨H.t,H.nx,lg⟩ v l:=hv;generalize (⟨H.t,H.nx,lg⟩:Hp)=H at hu hv ⊢;refine C1.body (E:=E2) (nt:=45) (res:=[.tmp 4,.tmp 5,.tmp 6]) Tryz.func145 rfl rfl rfl rfl rfl fun tm A0=>?_;have h0:=A0 0 _ rfl;have h1:=A0 1 _ rfl;clear A0;have fin:∀ (a b c:Int) (A:ab) (H3:Hp),slot A.tm 4=.one (.i .i64 a)→slot A.tm 5=.one (.i .i64 b)→slot A.tm 6=.one (.i .i64 c)→A.dfr=[]→Gr H H3→(a,b,c)=ee n us false 0 0 l →
   ∃ w H4,aC E2 [.tmp 4,.tmp 5,.tmp 6] (.ret,A,H3)=.ok [(w,H4)]∧Gr H H4∧∀ _:List Nat,w=.tup [(false,[.i .i64 (ee n us false 0 0 l).1]),(false,[.i .i64 (ee n us false 0 0 l).2.1]),(false,[.i .i64 (ee n us false 0 0 l).2.2])]:=fun a b c A H3 h1 h2 h3 hd hg hv=>
  ⟨_,H3,xD (.i .i64 a) (.i .i64 b) (.i .i64 c) (.inr rfl) hd h1 h2 h3,hg,fun _=>by rw[←hv]⟩
 generalize E0:ee n us false 0 0 l=r0 at fin;refine qG (qA ae h0) fun K hK=>?_;refine hK _ _ ?_;clear hK K;refine R1.gen (fun A1 H1=>Gr H H1∧H.nx<H1.nx∧H1.get H.nx=some (.arr [.o (.str n),u] 97 0 0)∧slot A1.tm 1=.one v∧slot A1.tm 2=.one (.o (.ptr H.nx 0 0 2))∧slot A1.tm 4=.one (.i .i64 0)∧slot A1.tm 5=.one (.i .i64 0)∧A1.nt=45∧A1.dfr=[])
  ⟨(Fr.refl _).new _,?_⟩ ?_
 ·exact qZ h1
 rintro A1 H1 ⟨g1,n1,rb,t1,t2,t4,t5,B0,C0⟩;clear h0 h1 tm;obtain ⟨kb,hkb⟩:∃ k,k=H.nx:=⟨_,rfl⟩;rw[←hkb] at n1 rb t2;have G2:=hu.gr g1;have D2:=hv.gr g1;refine qW (qA ae (qA t1 (qA B0 (qA dY (qA D2.len D2.lt))))) ?_;refine R1.aU fun K k1 k2 k3 k4=>?_;refine R1.loop (fun k A H2=>∃ (i:Nat) (a b:Int),k=l.length - i∧i≤l.length∧Gr H1 H2∧ee n us (decide (0<i)) a b (l.drop i)=r0∧slot A.tm 2=.one (.o (.ptr kb 0 0 2))∧slot A.tm 4=.one (.i .i64 a)∧slot A.tm 5=.one (.i .i64 b)∧slot A.tm 11=.one v∧slot A.tm 12=.one (.i .i64 (l.length:Int))∧slot A.tm 13=.one (.i .i64 (i:Int))∧A.nt=45∧A.dfr=[]) ?_ l.length
  ⟨0,0,0,rfl,Nat.zero_le _,Fr.refl _,E0,?_⟩
 ·clear t1 t2 t4 t5 B0 C0 A1;rintro k A H2 ⟨i,a,b,rfl,hi,g2,hr,t2,t4,t5,t11,t12,t13,B0,C0⟩;have O3:=G2.gr g2;have N2:=D2.gr g2;have g2':=g1.gr g2;have rb:H2.get kb=some (.arr [.o (.str n),u] 97 0 0):=by rw[g2.get _ n1 zB2];exact rb
  have n2:kb<H2.nx:=zA0 n1 g2.nx;refine qW (qA ae (qA t12 (qA t13 B0))) ?_;refine qE fun Kx Ky hx hy=>?_;refine di (fun hc=>hx ?_) (fun hc=>hy ?_)
  ·clear hx hy Kx Ky;have D0:i<l.length:=by omega
   obtain ⟨id,g,off,cells,rfl,hid,T0,O0⟩:=N2.open (by omega);have ex:=zB4 D0;have Z0:=zC1 D0;generalize l[i]=x at ex Z0;have V0:=O0 i x ex;have J1:=zC0 i (by omega);rw[Z0,ee] at hr;refine qV ?_;refine R1.aU fun K2 q1 q2 q3 q4=>?_;refine qG (qA ae (qA t11 (qA t13 (qA B0 (qA iG (qA iu (qA sj (qA nC (qA (ixC D0) (qA hid (qA T0 (qA V0.all (qA V0.le dP))))))))))))) fun K hK=>?_;refine hK _ _ ?_;clear hK K;refine R1.gen (fun A3 H3=>Gr H2 H3∧H2.nx<H3.nx∧H3.get H2.nx=some (.arr (gpC x) 181 0 0)∧slot A3.tm 2=.one (.o (.ptr kb 0 0 2))∧slot A3.tm 4=.one (.i .i64 a)∧slot A3.tm 5=.one (.i .i64 b)∧slot A3.tm 7=.one (.i .i64 (i:Int))∧slot A3.tm 8=.one (.o (.ptr H2.nx 0 0 3))∧slot A3.tm 11=.one (.o (.sl id g off l.length 3))∧slot A3.tm 12=.one (.i .i64 (l.length:Int))∧slot A3.tm 13=.one (.i .i64 (i:Int))∧A3.nt=45∧A3.dfr=[])
    ⟨((Fr.refl _).new _).mod _ (.inl (zA1 _)),?_⟩ ?_
   ·exact qZ (qA t2 (qA t4 (qA t5 (qA t11 (qA t12 (qA t13 (qA B0 (qA C0 dP))))))))
   clear t2 t4 t5 t11 t12 t13 B0 C0 A;rintro A H3 ⟨g3,n3,rx,t2,t4,t5,t7,t8,t11,t12,t13,B0,C0⟩;have rb3:H3.get kb=some (.arr [.o (.str n),u] 97 0 0):=by rw[g3.get _ n2 zB2];exact rb
   have n23:kb<H3.nx:=zA0 n2 g3.nx;refine qG (qA ae (qA t2 (qA t8 (qA B0 (qA rb3 (qA n23 (qA rx (qA n3 (qA da (qA kh (qA aQ (qA dP Ro)))))))))))) fun K hK=>?_;refine WE.con (Oo H3 n u us x.2.1 (O3.gr g3)) fun w H4 g4 hw=>?_;subst hw;have rx4:H4.get H2.nx=some (.arr (gpC x) 181 0 0):=by rw[g4.get _ n3 zB2];exact rx
   have n4:H2.nx<H4.nx:=zA0 n3 g4.nx;have g24:Gr H1 H4:=g2.gr (g3.gr g4);have g4':Gr H H4:=g1.gr g24;refine qS (qA ae B0) ?_;refine hK _ _ ?_;clear hK K;generalize hU n us x.2.1=ve at hr ⊢;obtain ⟨w,e0⟩:=ve;simp only at hr ⊢
   by_cases T2:e0=0
   case neg=>
    have ce:(e0 != 0)=true:=bne_iff_ne.2 T2;rw[zB0 T2] at hr;refine qW (qA ae (qA B0 ce)) ?_;refine qE fun Kx Ky hx hy=>?_;refine di (fun _=>hx ?_) (fun h=>absurd ce (by simpa using h));clear hx hy Kx Ky;refine qW B0 ?_;exact q4 _ _ (k4 _ _ (fin 0 0 e0 _ _ qp qp qp (qd C0) g4' hr))
   rw[zB1 (fun h=>h T2)] at hr;refine qW (qA ae (qA B0 T2)) ?_;refine qY ?_;refine R1.bg ?_;by_cases E8:(0<i)∧b≤w
   ·have c0:((0:Int)<(i:Int))=True:=eq_true (by omega);have c1:(b≤w)=True:=eq_true E8.2;rw[zB0 ⟨decide_eq_true E8.1,E8.2⟩] at hr;refine qW (qA ae (qA t5 (qA t7 (qA B0 (qA c0 c1))))) ?_;refine qY ?_;refine qW B0 ?_;exact q4 _ _ (k4 _ _ (fin 0 0 22 _ _ qp qp qp (qd C0) g4' hr))
   rw[zB1 (fun h=>E8 ⟨of_decide_eq_true h.1,h.2⟩)] at hr;have next:∀ (A2:ab),slot A2.tm 2=.one (.o (.ptr kb 0 0 2))→slot A2.tm 4=.one (.i .i64 (IntKind.i64.wrap (a+IntKind.i64.wrap (x.1*w))))→slot A2.tm 5=.one (.i .i64 w)→slot A2.tm 11=.one (.o (.sl id g off l.length 3))→slot A2.tm 12=.one (.i .i64 (l.length:Int))→slot A2.tm 13=.one (.i .i64 (i:Int))→A2.nt=45→A2.dfr=[]→K2 .normal A2 H4:=by
    intro A2 s2 s4 s5 s11 s12 s13 hn hd;refine q1 _ _ ?_;refine qW (qA hn (qA s13 J1)) ?_;refine ⟨l.length - (i+1),by omega,i+1,_,w,rfl,D0,g24,(by rw[decide_eq_true (Nat.succ_pos i)];exact hr),?_,?_,?_,?_,?_,?_,?_,?_⟩
    ·simp only[aa,Nat.reduceEqDiff,reduceIte,s2]
    ·simp only[aa,Nat.reduceEqDiff,reduceIte,s4]
    ·simp only[aa,Nat.reduceEqDiff,reduceIte,s5]
    ·simp only[aa,Nat.reduceEqDiff,reduceIte,s11]
    ·simp only[aa,Nat.reduceEqDiff,reduceIte,s12]
    ·simp only[aa,Nat.reduceEqDiff,reduceIte]
    ·simp only[aE,hn]
    simp only[ak,hd]
   clear q1;by_cases h0i:0<i
   ·have c0:((0:Int)<(i:Int))=True:=eq_true (by omega);have c1:(b≤w)=False:=eq_false fun h=>E8 ⟨h0i,h⟩;refine qW (qA ae (qA t5 (qA t7 (qA B0 (qA c0 c1))))) ?_;refine qY ?_;refine qW (qA ae (qA t4 (qA t8 (qA B0 (qA rx4 (qA n4 (qA dP (qA iT cD)))))))) ?_;refine next _ ?_ ?_ ?_ ?_ ?_ ?_ ?_ ?_ <;> simp only[aa,Nat.reduceEqDiff,reduceIte,aE,ak,t2,t11,t12,t13,B0,C0]
   have c0:((0:Int)<(i:Int))=False:=eq_false (by omega);refine qW (qA ae (qA t5 (qA t7 (qA B0 c0)))) ?_;refine qY ?_;refine qW (qA ae (qA t4 (qA t8 (qA B0 (qA rx4 (qA n4 (qA dP (qA iT cD)))))))) ?_;refine next _ ?_ ?_ ?_ ?_ ?_ ?_ ?_ ?_ <;> simp only[aa,Nat.reduceEqDiff,reduceIte,aE,ak,t2,t11,t12,t13,B0,C0]
  clear hx hy Kx Ky;have E3:i=l.length:=by omega
  rw[E3,List.drop_length,ee] at hr;refine qW B0 ?_;refine k2 _ _ ?_;refine qW (qA B0 (qA t4 t5)) ?_;exact fin a b 0 _ _ qp qp qp (qd C0) g2' hr
 simp only[aa,Nat.reduceEqDiff,reduceIte,aE,ak,t1,t2,t4,t5,B0,C0,and_self,true_and];exact ⟨rfl,trivial⟩
theorem JI:al Tryz.prog 85=true:=by kernel_rfl
theorem Ac {x:Nm} (h:fl x=0):x.1.length≤24∧x.2.length≤24:=by
 unfold fl at h;by_cases hc:(24:Int)<x.1.length∨(24:Int)<x.2.length
 ·rw[zB0 hc] at h;cases h
 omega
def iz (n:List UInt8) (us:List Pr) (x:Nm):Int×Int:=
 if bN n us≠0 then (0,bN n us) else if fl x≠0 then (0,fl x) else if tT x.1=true then (0,24) else
 if (ee n us false 0 0 x.1).2.2≠0 then (0,(ee n us false 0 0 x.1).2.2) else if (1099511627776:Int)<(ee n us false 0 0 x.1).1 then (0,6) else
 if (ee n us false 0 0 x.2).2.2≠0 then (0,(ee n us false 0 0 x.2).2.2) else if (ee n us false 0 0 x.1).2.1≤(ee n us false 0 0 x.2).1 then (0,23) else
 (IntKind.i64.wrap ((ee n us false 0 0 x.1).1 - (ee n us false 0 0 x.2).1),0)
theorem FB (H:Hp) (n:List UInt8) (u p q:AC) (us:List Pr) (x:Nm) (hu:SlP H u us) (hp:bB H p x.1) (hq:bB H q x.2):
  Con E2 85 [.agg [.o (.str n),u],.agg [p,q]] H (fun _=>False) fun r _=>r=.tup [(false,[.i .i64 (iz n us x).1]),(false,[.i .i64 (iz n us x).2])]:=by
 refine Con.of rfl fun lg=>?_;have hu:SlP ⟨H.t,H.nx,lg⟩ u us:=hu;have hp:bB ⟨H.t,H.nx,lg⟩ p x.1:=hp;have hq:bB ⟨H.t,H.nx,lg⟩ q x.2:=hq;generalize (⟨H.t,H.nx,lg⟩:Hp)=H at hu hp hq ⊢;refine C1.body (E:=E2) (nt:=56) (res:=[.tmp 4,.tmp 5]) Tryz.func85 rfl rfl rfl rfl rfl fun tm A0=>?_;have h0:=A0 0 _ rfl;have h1:=A0 1 _ rfl;clear A0;have fin:∀ (v w:Int) (A:ab) (H3:Hp),slot A.tm 4=.one (.i .i64 v)→slot A.tm 5=.one (.i .i64 w)→A.dfr=[]→Gr H H3→(v,w)=iz n us x →
   ∃ w H4,aC E2 [.tmp 4,.tmp 5] (.ret,A,H3)=.ok [(w,H4)]∧Gr H H4∧∀ _:List Nat,w=.tup [(false,[.i .i64 (iz n us x).1]),(false,[.i .i64 (iz n us x).2])]:=fun v w A H3 h1 h2 hd hg hv=>
  ⟨_,H3,aM (.i .i64 v) (.i .i64 w) (.inr rfl) hd h1 h2,hg,fun _=>by rw[←hv]⟩
 generalize E0:iz n us x=r0 at fin;unfold iz at E0;refine qG (qA ae (qA h0 h1)) fun K hK=>?_;refine hK _ _ ?_;clear hK K;refine R1.gen (fun A1 H1=>Gr H H1∧H.nx+1<H1.nx∧H1.get H.nx=some (.arr [.o (.str n),u] 97 0 0)∧H1.get (H.nx+1)=some (.arr [p,q] 66 0 0)∧slot A1.tm 2=.one (.o (.ptr H.nx 0 0 2))∧slot A1.tm 3=.one (.o (.ptr (H.nx+1) 0 0 2))∧A1.nt=56∧A1.dfr=[])
  ⟨((Fr.refl _).new _).new _,?_⟩ ?_
 ·exact qU
 rintro A1 H1 ⟨g1,n1,ra,rb,t2,t3,B0,C0⟩;clear h0 h1 tm;obtain ⟨k1,E4⟩:∃ k,k=H.nx:=⟨_,rfl⟩;obtain ⟨k2,W4⟩:∃ k,k=H.nx+1:=⟨_,rfl⟩;rw[←W4] at n1 rb t3;rw[←E4] at ra t2;have m1:k1<H1.nx:=by omega
 clear E4 W4;have G2:=hu.gr g1;have U5:=hp.gr g1;have T7:=hq.gr g1;refine qG (qA ae (qA t2 (qA B0 (qA ra (qA m1 (qA da vX)))))) fun K hK=>?_;refine WE.con (sD H1 n u us G2) fun v H2 g2 hv=>?_;subst hv;have ra:=(g2.get _ m1 zB2).trans ra;have rb:=(g2.get _ n1 zB2).trans rb;have m1:=zA0 m1 g2.nx;have n1:=zA0 n1 g2.nx;have O3:=G2.gr g2;have P4:=U5.gr g2;have P2:=T7.gr g2;have g2:=g1.gr g2;refine qS (qA ae B0) ?_;refine hK _ _ ?_;clear hK K;generalize bN n us=e0 at E0 ⊢;by_cases T2:e0=0
 case neg=>
  have ce:(e0 != 0)=true:=bne_iff_ne.2 T2;rw[zB0 T2] at E0;refine qW (qA ae (qA B0 ce)) ?_;refine qE fun Kx Ky hx hy=>?_;refine di (fun _=>hx ?_) (fun h=>absurd ce (by simpa using h));clear hx hy Kx Ky;refine qW B0 ?_;exact fin (0) (e0) _ _ qp qp (qd C0) g2 E0
 rw[zB1 (fun h=>h T2)] at E0;refine qW (qA ae (qA B0 T2)) ?_;refine qY ?_;refine R1.bg ?_;refine qG (qA ae (qA t3 (qA B0 (qA rb (qA n1 (qA uC te)))))) fun K hK=>?_;refine WE.con (qn H2 p q x P4 P2) fun v H3 g3 hv=>?_;subst hv;have ra:=(g3.get _ m1 zB2).trans ra;have rb:=(g3.get _ n1 zB2).trans rb;have m1:=zA0 m1 g3.nx;have n1:=zA0 n1 g3.nx;have R7:=O3.gr g3;have z9:=P4.gr g3;have O5:=P2.gr g3;have g3:=g2.gr g3;have hlen:=@Ac x;refine qS (qA ae B0) ?_;refine hK _ _ ?_;clear hK K;generalize fl x=e1 at E0 hlen ⊢;by_cases z6:e1=0
 case neg=>
  have ce:(e1 != 0)=true:=bne_iff_ne.2 z6;rw[zB0 z6] at E0;refine qW (qA ae (qA B0 ce)) ?_;refine qE fun Kx Ky hx hy=>?_;refine di (fun _=>hx ?_) (fun h=>absurd ce (by simpa using h));clear hx hy Kx Ky;refine qW B0 ?_;exact fin (0) (e1) _ _ qp qp (qd C0) g3 E0
 rw[zB1 (fun h=>h z6)] at E0;obtain ⟨q6,O8⟩:=hlen z6;refine qW (qA ae (qA B0 z6)) ?_;refine qY ?_;refine R1.bg ?_;refine qG (qA ae (qA t3 (qA B0 (qA rb (qA n1 (qA cF (qA cP yU))))))) fun K hK=>?_;refine WE.con (vh H3 p x.1 z9 (by omega)) fun v H4 g4 hv=>?_;subst hv;have ra:=(g4.get _ m1 zB2).trans ra;have rb:=(g4.get _ n1 zB2).trans rb;have m1:=zA0 m1 g4.nx;have n1:=zA0 n1 g4.nx;have hu4:=R7.gr g4;have hp4:=z9.gr g4;have a8:=O5.gr g4;have g4:=g3.gr g4;refine qS (qA ae B0) ?_;refine hK _ _ ?_;clear hK K;cases hb:tT x.1 with
 | true=>
  rw[zB0 hb] at E0;refine qY ?_;refine qW B0 ?_;exact fin (0) (24) _ _ qp qp (qd C0) g4 E0
 | false=>
 rw[zB1 (by rw[hb];exact zA8)] at E0;refine qY ?_;refine R1.bg ?_;refine qG (qA ae (qA t2 (qA t3 (qA B0 (qA ra (qA m1 (qA rb (qA n1 (qA da (qA cF (qA cP EP))))))))))) fun K hK=>?_;refine WE.con (AS H4 n u p us x.1 hu4 hp4 (by omega)) fun v H5 g5 hv=>?_;subst hv;have ra:=(g5.get _ m1 zB2).trans ra;have rb:=(g5.get _ n1 zB2).trans rb;have m1:=zA0 m1 g5.nx;have n1:=zA0 n1 g5.nx;have T9:=hu4.gr g5;have y9:=a8.gr g5;have g5:=g4.gr g5;refine qS (qA ae B0) ?_;refine hK _ _ ?_;clear hK K;generalize ee n us false 0 0 x.1=s1 at E0 ⊢;obtain ⟨a1,b1,c1⟩:=s1;simp only at E0 ⊢
 by_cases x_:c1=0
 case neg=>
  have ce:(c1 != 0)=true:=bne_iff_ne.2 x_;rw[zB0 x_] at E0;refine qW (qA ae (qA B0 ce)) ?_;refine qE fun Kx Ky hx hy=>?_;refine di (fun _=>hx ?_) (fun h=>absurd ce (by simpa using h));clear hx hy Kx Ky;refine qW B0 ?_;exact fin (0) (c1) _ _ qp qp (qd C0) g5 E0
 rw[zB1 (fun h=>h x_)] at E0;refine qW (qA ae (qA B0 x_)) ?_;refine qY ?_;refine R1.bg ?_;by_cases L0:(1099511627776:Int)<a1
 ·have cb:((1099511627776:Int)<a1)=True:=eq_true L0;rw[zB0 L0] at E0;refine qW (qA ae (qA B0 cb)) ?_;refine qY ?_;refine qW B0 ?_;exact fin (0) (6) _ _ qp qp (qd C0) g5 E0
 have cb:((1099511627776:Int)<a1)=False:=eq_false L0;rw[zB1 L0] at E0;refine qW (qA ae (qA B0 cb)) ?_;refine qY ?_;refine R1.bg ?_;refine qG (qA ae (qA t2 (qA t3 (qA B0 (qA ra (qA m1 (qA rb (qA n1 (qA da (qA dN (qA cP EP))))))))))) fun K hK=>?_;refine WE.con (AS H5 n u q us x.2 T9 y9 (by omega)) fun v H6 g6 hv=>?_;subst hv;have g6:=g5.gr g6;refine qS (qA ae B0) ?_;refine hK _ _ ?_;clear hK K;generalize ee n us false 0 0 x.2=s2 at E0 ⊢;obtain ⟨a2,b2,c2⟩:=s2;simp only at E0 ⊢
 by_cases I':c2=0
 case neg=>
  have ce:(c2 != 0)=true:=bne_iff_ne.2 I';rw[zB0 I'] at E0;refine qW (qA ae (qA B0 ce)) ?_;refine qE fun Kx Ky hx hy=>?_;refine di (fun _=>hx ?_) (fun h=>absurd ce (by simpa using h));clear hx hy Kx Ky;refine qW B0 ?_;exact fin (0) (c2) _ _ qp qp (qd C0) g6 E0
 rw[zB1 (fun h=>h I')] at E0;refine qW (qA ae (qA B0 I')) ?_;refine qY ?_;refine R1.bg ?_;by_cases X9:b1≤a2
 ·have cg:(b1≤a2)=True:=eq_true X9;rw[zB0 X9] at E0;refine qW (qA ae (qA B0 cg)) ?_;refine qY ?_;refine qW B0 ?_;exact fin (0) (23) _ _ qp qp (qd C0) g6 E0
 have cg:(b1≤a2)=False:=eq_false X9;rw[zB1 X9] at E0;refine qW (qA ae (qA B0 cg)) ?_;refine qY ?_;refine qW B0 ?_;exact fin (IntKind.i64.wrap (a1 - a2)) (0) _ _ qp qp (qd C0) g6 E0
theorem SlI.gr {H H':Hp} {v:AC} {l:List Int} (h:SlI H v l) (hg:Gr H H'):SlI H' v l:=SlC.gr h hg
theorem SlI.len {H:Hp} {v:AC} {l:List Int} (h:SlI H v l):cG H 1 (.one v)=.val (.one (.i .i64 (l.length:Int))) H:=SlC.len h
theorem SlI.lt {H:Hp} {v:AC} {l:List Int} (h:SlI H v l):ltV (.one v) H.nx:=lC h
theorem SlI.nil {H:Hp}:SlI H (.o .nilS) []:=⟨by simp,.inl ⟨rfl,rfl⟩⟩
theorem SlI.open {H:Hp} {v:AC} {l:List Int} (h:SlI H v l) (hn:0<l.length):∃ id g off cells,v=.o (.sl id g off l.length 1)∧id<H.nx∧rowOf (H.get id) g=some cells∧∀ (i:Nat) (x:Int),l[i]?=some x→(cells.drop (off+i*1)).headD (.b false)=.i .i64 x∧off+i*1+1≤cells.length:=by
 obtain ⟨id,g,off,h1,h2,hr⟩:=SlC.pos h hn;have Y2:=hr;obtain ⟨cells,h3,h6,h7⟩:=hr;refine ⟨id,g,off,cells,h1,h2,h3,fun i x hx=>?_⟩;obtain ⟨cells',k3,k6,k7⟩:=Rd.at (c:=CK) Ph Y2 hx;rw[h3] at k3;cases k3
 refine ⟨?_,k6⟩;cases hd:cells.drop (off+i*1) with
 | nil=>have:=congrArg List.length hd;simp at this;omega
 | cons a r=>
  rw[hd] at k7;have:=(List.cons.inj k7).1;rw[this];rfl
abbrev Cl:=Int×List UInt8×List UInt8×Nm
def ClR (H:Hp) (c:List AC) (x:Cl):Prop:=∃ p q,c=[.i .i64 x.1,.o (.str x.2.1),.o (.str x.2.2.1),p,q]∧bB H p x.2.2.2.1∧bB H q x.2.2.2.2
theorem ClR.gr {H H':Hp} {c:List AC} {x:Cl} (h:ClR H c x) (hg:Gr H H'):ClR H' c x:=let ⟨p,q,h1,h2,h3⟩:=h;⟨p,q,h1,h2.gr hg,h3.gr hg⟩
theorem CE {k:Int} {s t:List UInt8} {p q:AC}:jB [.i .i64 k,.o (.str s),.o (.str t),p,q]=(AV.one p).ids++(AV.one q).ids:=by
 simp only[sO,wZ,Pq,KU,List.nil_append,List.append_nil]
theorem CU:FrR ClR:=fun Y H H' c x ⟨p,q,h1,h2,h3⟩ hf hi=>by
 subst h1;rw[CE] at hi;exact ⟨p,q,rfl,SlC.fr h2 hf fun i h=>hi i (List.mem_append_left _ h),SlC.fr h3 hf fun i h=>hi i (List.mem_append_right _ h)⟩
theorem uU:LtR ClR:=fun H c x ⟨p,q,h1,h2,h3⟩ i hi=>by
 subst h1;rw[CE] at hi;rcases List.mem_append.1 hi with h|h
 ·exact h2.lt i h
 exact h3.lt i h
def xF (H:Hp) (v:AC) (l:List Cl):Prop:=SlR ClR 5 H v l
theorem xF.gr {H H':Hp} {v:AC} {l:List Cl} (h:xF H v l) (hg:Gr H H'):xF H' v l:=SlR.dp h hg.nx (fun i hi=>hg.get i hi zB2) fun _ _ h=>h.gr hg
theorem xF.len {H:Hp} {v:AC} {l:List Cl} (h:xF H v l):cG H 1 (.one v)=.val (.one (.i .i64 (l.length:Int))) H:=SlR.len h
theorem xF.lt {H:Hp} {v:AC} {l:List Cl} (h:xF H v l):ltV (.one v) H.nx:=SlR.lt h
structure ClAt (H:Hp) (cells:List AC) (o:Nat) (x:Cl) (p q:AC):Prop where
 of1:bB H p x.2.2.2.1
 of2:bB H q x.2.2.2.2
 all:(cells.drop o).take 5=[.i .i64 x.1,.o (.str x.2.1),.o (.str x.2.2.1),p,q]
 le:o+5≤cells.length
 le1:o+1≤cells.length
 le2:o+1+1≤cells.length
 le3:o+2+1≤cells.length
 le4:o+3+2≤cells.length
 f1:(cells.drop o).headD (.b false)=.i .i64 x.1
 f2:(cells.drop (o+1)).headD (.b false)=.o (.str x.2.1)
 f3:(cells.drop (o+2)).headD (.b false)=.o (.str x.2.2.1)
 f4:(cells.drop (o+3)).take 2=[p,q]
theorem Ym {cells:List AC} {o:Nat} {a b c d e:AC} (h:(cells.drop o).take 5=[a,b,c,d,e]):(cells.drop o).headD (.b false)=a∧(cells.drop (o+1)).headD (.b false)=b∧(cells.drop (o+2)).headD (.b false)=c∧(cells.drop (o+3)).take 2=[d,e]:=by
 rw[←List.drop_drop,←List.drop_drop,←List.drop_drop];match hd:cells.drop o,h with
 | x0::x1::x2::x3::x4::r,h=>
  simp only[List.take_succ_cons,List.take_zero,List.cons.injEq,and_true] at h;obtain ⟨rfl,rfl,rfl,rfl,rfl⟩:=h;exact ⟨rfl,rfl,rfl,rfl⟩
theorem xF.open {H:Hp} {v:AC} {l:List Cl} (h:xF H v l) (hn:0<l.length):∃ id g off cells,v=.o (.sl id g off l.length 5)∧id<H.nx∧rowOf (H.get id) g=some cells∧∀ (i:Nat) (x:Cl),l[i]?=some x→∃ p q,ClAt H cells (off+i*5) x p q:=by
 obtain ⟨id,g,off,cells,h1,h2,h3,h4⟩:=SlR.open h hn;refine ⟨id,g,off,cells,h1,h2,h3,fun i x hx=>?_⟩;obtain ⟨h5,c,h6,h7,p,q,rfl,h8,h9⟩:=h4 i x hx;obtain ⟨d1,d2,d3,d4⟩:=Ym h6;exact ⟨p,q,h8,h9,h6,h5,by omega,by omega,by omega,by omega,d1,d2,d3,d4⟩
abbrev Rl:=Int×List Int
def RlR (H:Hp) (c:List AC) (x:Rl):Prop:=∃ u,c=[.i .i64 x.1,u]∧SlI H u x.2
theorem RlR.gr {H H':Hp} {c:List AC} {x:Rl} (h:RlR H c x) (hg:Gr H H'):RlR H' c x:=let ⟨u,h1,h2⟩:=h;⟨u,h1,h2.gr hg⟩
theorem Cz {k:Int} {u:AC}:jB [.i .i64 k,u]=(AV.one u).ids:=by
 simp only[sO,wZ,Pq,List.nil_append,List.append_nil]
theorem Co:FrR RlR:=fun Y H H' c x ⟨u,h1,h2⟩ hf hi=>by
 subst h1;rw[Cz] at hi;exact ⟨u,rfl,SlC.fr h2 hf hi⟩
theorem uH:LtR RlR:=fun H c x ⟨u,h1,h2⟩ i hi=>by
 subst h1;rw[Cz] at hi;exact h2.lt i hi
def Ex (H:Hp) (v:AC) (l:List Rl):Prop:=SlR RlR 2 H v l
theorem Ex.gr {H H':Hp} {v:AC} {l:List Rl} (h:Ex H v l) (hg:Gr H H'):Ex H' v l:=SlR.dp h hg.nx (fun i hi=>hg.get i hi zB2) fun _ _ h=>h.gr hg
theorem Ex.len {H:Hp} {v:AC} {l:List Rl} (h:Ex H v l):cG H 1 (.one v)=.val (.one (.i .i64 (l.length:Int))) H:=SlR.len h
theorem Ex.lt {H:Hp} {v:AC} {l:List Rl} (h:Ex H v l):ltV (.one v) H.nx:=SlR.lt h
abbrev Pz:=List Cl×List Rl
theorem We:al Tryz.prog 37=true:=by kernel_rfl
def fR (o:Option (List Lad)) (s:List UInt8):Lad:=match o with
 | none=>([],[])
 | some ls=>(iv 0 ls s).elim ([],[]) fun i=>ls.getD i ([],[])
theorem Qz.of {H:Hp} {c:List AC} {o:Option (List Lad)} {s:List UInt8} (h:Qz H c o s):∃ u,c=[.o (.str (fR o s).1),u]∧SlP H u (fR o s).2:=by
 obtain ⟨h1,h2⟩:=h;cases o with
 | none=>exact ⟨_,h1 (by rw[OC];decide),SlP.nil⟩
 | some ls=>
  rw[oc] at h1;cases hi:iv 0 ls s with
  | none=>
   rw[hi] at h1;have e:fR (some ls) s=([],[]):=by unfold fR;simp only[hi,Option.elim_none]
   rw[e];exact ⟨_,h1 (by decide),SlP.nil⟩
  | some i=>
   obtain ⟨x,hx,_⟩:=Sq hi;have e:fR (some ls) s=x:=by unfold fR;simp only[hi,Option.elim_some];rw[List.getD_eq_getElem?_getD,hx];rfl
   rw[e];exact h2 ls i x rfl hi hx
def cX (o:Option (List Lad)) (x:Cl):Int×Int:=if kf o x.2.2.1≠0 then (0,kf o x.2.2.1) else iz (fR o x.2.2.1).1 (fR o x.2.2.1).2 x.2.2.2
theorem Tq (H:Hp) (k p q:AC) (o:Option (List Lad)) (x:Cl) (hk:cQ H k o) (hL:∀ ls,o=some ls→∀ x∈ls,x.2.length≤1000000) (hp:bB H p x.2.2.2.1) (hq:bB H q x.2.2.2.2):
  Con E2 37 [.one k,.agg [.i .i64 x.1,.o (.str x.2.1),.o (.str x.2.2.1),p,q]] H (fun _=>False) fun r _=>r=.tup [(false,[.i .i64 (cX o x).1]),(false,[.i .i64 (cX o x).2])]:=by
 refine Con.of rfl fun lg=>?_;have hk:cQ ⟨H.t,H.nx,lg⟩ k o:=cQ.same (H:=H) rfl rfl hk;have hp:bB ⟨H.t,H.nx,lg⟩ p x.2.2.2.1:=hp;have hq:bB ⟨H.t,H.nx,lg⟩ q x.2.2.2.2:=hq;generalize (⟨H.t,H.nx,lg⟩:Hp)=H at hk hp hq ⊢;refine C1.body (E:=E2) (nt:=24) (res:=[.tmp 4,.tmp 5]) Tryz.func37 rfl rfl rfl rfl rfl fun tm A0=>?_;have h0:=A0 0 _ rfl;have h1:=A0 1 _ rfl;clear A0;have fin:∀ (v w:Int) (A:ab) (H3:Hp),slot A.tm 4=.one (.i .i64 v)→slot A.tm 5=.one (.i .i64 w)→A.dfr=[]→Gr H H3→(v,w)=cX o x→∃ w H4,aC E2 [.tmp 4,.tmp 5] (.ret,A,H3)=.ok [(w,H4)]∧Gr H H4∧∀ _:List Nat,w=.tup [(false,[.i .i64 (cX o x).1]),(false,[.i .i64 (cX o x).2])]:=fun v w A H3 h1 h2 hd hg hv=>⟨_,H3,aM (.i .i64 v) (.i .i64 w) (.inr rfl) hd h1 h2,hg,fun _=>by rw[←hv]⟩;generalize E0:cX o x=r0 at fin;unfold cX at E0;refine qG (qA ae (qA h0 h1)) fun K hK=>?_;refine hK _ _ ?_;clear hK K;refine R1.gen (fun A1 H1=>Gr H H1∧H.nx<H1.nx∧H1.get H.nx=some (.arr [.i .i64 x.1,.o (.str x.2.1),.o (.str x.2.2.1),p,q] 84 0 0)∧slot A1.tm 0=.one (k)∧slot A1.tm 3=.one ((.o (.ptr H.nx 0 0 5)))∧A1.nt=24∧A1.dfr=[])
  ⟨(Fr.refl _).new _,?_⟩ ?_
 ·exact qZ h0
 rintro A1 H1 ⟨g1,m1,rx,t0,t3,B0,C0⟩;clear h0 h1 tm;obtain ⟨N,hN⟩:∃ N,N=H.nx:=⟨_,rfl⟩;rw[←hN] at m1 rx t3;have hk:=hk.gr g1;have hp:=hp.gr g1;have hq:=hq.gr g1;refine qG (qA ae (qA t0 (qA t3 (qA B0 (qA rx (qA m1 (qA sd (qA aQ sG)))))))) fun K hK=>?_;refine WE.con (po H1 k o x.2.2.1 hk hL) fun w H2 g2 ⟨c,hw,ha,R0⟩=>?_;subst hw;have rx:=(g2.get _ m1 zB2).trans rx;have m1:=zA0 m1 g2.nx;have hp:=hp.gr g2;have hq:=hq.gr g2;have g2:=g1.gr g2;refine qS (qA ae (qA B0 (qA eS (qA jg R0)))) ?_;refine hK _ _ ?_;clear hK K;obtain ⟨u,rfl,hu⟩:=ha.of;clear R0;refine R1.gen (fun A3 H3=>Gr H2 H3∧H2.nx<H3.nx∧H3.get H2.nx=some (.arr [.o (.str (fR o x.2.2.1).1),u] 97 0 0)∧slot A3.tm 3=.one ((.o (.ptr N 0 0 5)))∧slot A3.tm 6=.one ((.o (.ptr H2.nx 0 0 2)))∧slot A3.tm 7=.one (.i .i64 ((kf o x.2.2.1):Int))∧A3.nt=24∧A3.dfr=[])
  ⟨((Fr.refl _).new _).mod _ (.inl (zA1 _)),?_⟩ ?_
 ·exact qZ (qA t3 (qA B0 C0))
 clear t0 t3 B0 C0 A1;rintro A H3 ⟨g3,n3,rl,t3,t6,t7,B0,C0⟩;obtain ⟨M,hM⟩:∃ M,M=H2.nx:=⟨_,rfl⟩;rw[←hM] at rl n3 t6;clear hM;have rx:=(g3.get _ m1 zB2).trans rx;have m1:=zA0 m1 g3.nx;have hp:=hp.gr g3;have hq:=hq.gr g3;have hu:=hu.gr g3;have g3:=g2.gr g3;refine qW (qA ae (qA t7 B0)) ?_;generalize kf o x.2.2.1=e0 at E0 t7 ⊢;by_cases T2:e0=0
 case neg=>
  have ce:(e0==0)=false:=zB5 T2;rw[zB0 T2] at E0;refine qX ce ?_;refine qW (qA B0 t7) ?_;exact fin (0) (e0) _ _ qp qp (qd C0) (g3) (E0)
 rw[zB1 (fun h=>h T2)] at E0;have ce:(e0==0)=true:=by rw[T2];rfl
 refine qX ce ?_;refine R1.bg ?_;refine qG (qA ae (qA t3 (qA t6 (qA B0 (qA rx (qA m1 (qA rl (qA n3 (qA da (qA sI (qA uC JI))))))))))) fun K hK=>?_;refine WE.con (FB H3 (fR o x.2.2.1).1 u p q (fR o x.2.2.1).2 x.2.2.2 hu hp hq) fun w H4 g4 hw=>?_;subst hw;refine qS (qA ae B0) ?_;refine hK _ _ ?_;clear hK K;refine qV ?_;exact fin ((iz (fR o x.2.2.1).1 (fR o x.2.2.1).2 x.2.2.2).1) ((iz (fR o x.2.2.1).1 (fR o x.2.2.1).2 x.2.2.2).2) _ _ qp qp (qd C0) (g3.gr g4) (E0)
open Go Go.Eng Go.ChangeShapes Go.WideShapes
abbrev XM:=fw (Ch .i64) (fw vj TQ)
abbrev Gj:=xE Tryz.prog 181 3 XM
abbrev Wq:=fw Gj Gj
theorem KO:jZ XM:=bT ed (bT bS Sz)
theorem vf:jZ Gj:=og KO
theorem KJ:jZ Wq:=bT vf vf
theorem UL {W:World}:Opn Tryz.prog W 3 XM 181:=dC Tryz.underlying181 (by kernel_rfl) rfl (bP (lS Tryz.underlying3) ed (bP (gK Tryz.underlying9) bS (fJ (Rq Tryz.underlying4))))
theorem Fj {W:World} (hB:nj W):Opn Tryz.prog W 1 Gj 64:=gk Tryz.underlying64 (by kernel_rfl) (by decide) KO hB UL
theorem Vc {W:World} (hB:nj W):Opn Tryz.prog W 2 Wq 66:=dC Tryz.underlying66 (by kernel_rfl) rfl (bP (Fj hB) vf (fJ (Fj hB)))
theorem DX:Tryz.prog.bytesOf 181=32:=by kernel_rfl
theorem Mi {B:Nat} {H:Hp} {c:List AC} {us:List Gp} (h:Gj B H c us):∃ u,c=[u]∧bB H u us∧us.length*32≤B:=by
 obtain ⟨u,rfl,⟨css,h1,h2⟩,h3⟩:=h;refine ⟨u,rfl,?_,by rwa [DX] at h3⟩;have:=rA (f:=gpC) (h2.mono fun c x ⟨_,c1,c2,e,a,c3,c4,e2,b,d⟩=>by rw[e,a.1,e2,b.1,d];rfl);rw[this] at h1;exact h1
theorem Xn {B:Nat} {H:Hp} {c:List AC} {x:Nm} (h:Wq B H c x):∃ p q,c=[p,q]∧bB H p x.1∧bB H q x.2∧x.1.length*32≤B∧x.2.length*32≤B:=by
 obtain ⟨c1,c2,rfl,h1,h2⟩:=h;obtain ⟨p,rfl,a1,a2⟩:=Mi h1;obtain ⟨q,rfl,b1,b2⟩:=Mi h2;exact ⟨p,q,rfl,a1,b1,a2,b2⟩
theorem zT:loadT Tryz.prog 240=some (false,1):=by kernel_rfl
theorem zB:aS Tryz.prog 240=some 1:=by kernel_rfl
theorem zM:(aB Tryz.prog 240).map (fun z=>(ofValue z).cells)=some [.o .nilS]:=by kernel_rfl
theorem Bd:bm Tryz.prog 240=some (38,1):=by kernel_rfl
theorem yZ:eu Tryz.prog 240=some 1:=by kernel_rfl
theorem Ak:aP Tryz.prog 240=1:=by kernel_rfl
theorem MY:loadT Tryz.prog 266=some (true,3):=by kernel_rfl
theorem MW:aS Tryz.prog 266=some 3:=by kernel_rfl
theorem Mj:(aB Tryz.prog 266).map (fun z=>(ofValue z).cells)=some [.i .i64 0,.o (.str []),.i .i64 0]:=by kernel_rfl
theorem No:aP Tryz.prog 266=4:=by kernel_rfl
theorem xN:aI Tryz.prog 266 0=some (0,3,1):=by kernel_rfl
theorem yj:aI Tryz.prog 266 1=some (1,9,1):=by kernel_rfl
theorem AH:aI Tryz.prog 266 2=some (2,3,1):=by kernel_rfl
def ua:Nat→Option (Nat×Nat):=fun i=>(#[(0,1),(1,1),(2,1)]:Array (Nat×Nat))[i]?
theorem Lr:ca Tryz.prog 266=some ua:=by kernel_rfl
theorem zg:ua 0=some (0,1):=rfl
theorem Bc:ua 1=some (1,1):=rfl
theorem yN:ua 2=some (2,1):=rfl
theorem DF:loadT Tryz.prog 110=some (false,1):=by kernel_rfl
theorem He:aS Tryz.prog 110=some 1:=by kernel_rfl
theorem GY:(aB Tryz.prog 110).map (fun z=>(ofValue z).cells)=some [.o .nilS]:=by kernel_rfl
theorem FJ:bm Tryz.prog 110=some (116,4):=by kernel_rfl
theorem Ht:eu Tryz.prog 110=some 1:=by kernel_rfl
theorem HK:aP Tryz.prog 110=1:=by kernel_rfl
theorem RW:loadT Tryz.prog 116=some (true,4):=by kernel_rfl
theorem SZ:aS Tryz.prog 116=some 4:=by kernel_rfl
theorem Rj:(aB Tryz.prog 116).map (fun z=>(ofValue z).cells)=some [.i .i64 0,.i .i64 0,.i .i64 0,.i .i64 0]:=by kernel_rfl
theorem Qh:aP Tryz.prog 116=4:=by kernel_rfl
theorem Dp:aI Tryz.prog 116 0=some (0,3,1):=by kernel_rfl
theorem HL:aI Tryz.prog 116 1=some (1,3,1):=by kernel_rfl
theorem Et:aI Tryz.prog 116 2=some (2,3,1):=by kernel_rfl
theorem DJ:aI Tryz.prog 116 3=some (3,3,1):=by kernel_rfl
def wX:Nat→Option (Nat×Nat):=fun i=>(#[(0,1),(1,1),(2,1),(3,1)]:Array (Nat×Nat))[i]?
theorem Sp:ca Tryz.prog 116=some wX:=by kernel_rfl
theorem Hv:wX 0=some (0,1):=rfl
theorem DM:wX 1=some (1,1):=rfl
theorem GV:wX 2=some (2,1):=rfl
theorem Ew:wX 3=some (3,1):=rfl
theorem RJ:loadT Tryz.prog 278=some (false,1):=by kernel_rfl
theorem TX:aS Tryz.prog 278=some 1:=by kernel_rfl
theorem QA:(aB Tryz.prog 278).map (fun z=>(ofValue z).cells)=some [.o .nilF]:=by kernel_rfl
theorem TH:aP Tryz.prog 278=3:=by kernel_rfl
theorem Nc:loadT Tryz.prog 185=some (true,2):=by kernel_rfl
theorem LA:aS Tryz.prog 185=some 2:=by kernel_rfl
theorem Ws:cB Tryz.prog 185=some 24:=by kernel_rfl
theorem Dk:(aB Tryz.prog 185).map (fun z=>(ofValue z).cells)=some [.o (.str []),.i .i64 0]:=by kernel_rfl
theorem UK:∃ z,aB Tryz.prog 185=some z∧(ofValue z).cells.length=2:=by
 have h:=Dk;cases hz:aB Tryz.prog 185 with
 | none=>rw[hz] at h;cases h
 | some z=>
  rw[hz] at h;exact ⟨z,rfl,by have:(ofValue z).cells=_:=Option.some.inj h;rw[this];rfl⟩
theorem KE:aP Tryz.prog 185=4:=by kernel_rfl
theorem zP:aI Tryz.prog 185 0=some (0,9,1):=by kernel_rfl
theorem AW:aI Tryz.prog 185 1=some (1,3,1):=by kernel_rfl
def CY:Nat→Option (Nat×Nat):=fun i=>(#[(0,1),(1,1)]:Array (Nat×Nat))[i]?
theorem MR:ca Tryz.prog 185=some CY:=by kernel_rfl
theorem Aa:CY 0=some (0,1):=rfl
theorem zJ:CY 1=some (1,1):=rfl
theorem ER:loadT Tryz.prog 67=some (false,1):=by kernel_rfl
theorem Fm:aS Tryz.prog 67=some 1:=by kernel_rfl
theorem EA:(aB Tryz.prog 67).map (fun z=>(ofValue z).cells)=some [.o .nilS]:=by kernel_rfl
theorem wg:bm Tryz.prog 67=some (185,2):=by kernel_rfl
theorem Ey:eu Tryz.prog 67=some 1:=by kernel_rfl
theorem qw:aP Tryz.prog 67=1:=by kernel_rfl
theorem Bl:loadT Tryz.prog 69=some (true,8):=by kernel_rfl
theorem Kc:aS Tryz.prog 69=some 8:=by kernel_rfl
theorem Vr:cB Tryz.prog 69=some 120:=by kernel_rfl
theorem BB:(aB Tryz.prog 69).map (fun z=>(ofValue z).cells)=some [.i .i64 0,.i .i64 0,.i .i64 0,.i .i64 0,.o .nilS,.o .nilS,.o (.str []),.o .nilS]:=by kernel_rfl
theorem Ux:∃ z,aB Tryz.prog 69=some z∧(ofValue z).cells.length=8:=by
 have h:=BB;cases hz:aB Tryz.prog 69 with
 | none=>rw[hz] at h;cases h
 | some z=>
  rw[hz] at h;exact ⟨z,rfl,by have:(ofValue z).cells=_:=Option.some.inj h;rw[this];rfl⟩
theorem ML:aP Tryz.prog 69=4:=by kernel_rfl
theorem zr:aI Tryz.prog 69 0=some (0,3,1):=by kernel_rfl
theorem sS:aI Tryz.prog 69 1=some (1,3,1):=by kernel_rfl
theorem sk:aI Tryz.prog 69 2=some (2,3,1):=by kernel_rfl
theorem yy:aI Tryz.prog 69 3=some (3,3,1):=by kernel_rfl
theorem kA:aI Tryz.prog 69 4=some (4,66,2):=by kernel_rfl
theorem zq:aI Tryz.prog 69 5=some (6,9,1):=by kernel_rfl
theorem zQ:aI Tryz.prog 69 6=some (7,67,1):=by kernel_rfl
def jD:Nat→Option (Nat×Nat):=fun i=>(#[(0,1),(1,1),(2,1),(3,1),(4,2),(6,1),(7,1)]:Array (Nat×Nat))[i]?
theorem Mb:ca Tryz.prog 69=some jD:=by kernel_rfl
theorem yO:jD 0=some (0,1):=rfl
theorem zm:jD 1=some (1,1):=rfl
theorem AZ:jD 2=some (2,1):=rfl
theorem Be:jD 3=some (3,1):=rfl
theorem yY:jD 4=some (4,2):=rfl
theorem yD:jD 5=some (6,1):=rfl
theorem Aq:jD 6=some (7,1):=rfl
theorem ju:loadT Tryz.prog 24=some (false,1):=by kernel_rfl
theorem Fx:aS Tryz.prog 24=some 1:=by kernel_rfl
theorem by_cases:cB Tryz.prog 24=some 24:=by kernel_rfl
theorem Gg:(aB Tryz.prog 24).map (fun z=>(ofValue z).cells)=some [.o .nilS]:=by kernel_rfl
theorem gV:bm Tryz.prog 24=some (69,8):=by kernel_rfl
theorem Hq:eu Tryz.prog 24=some 1:=by kernel_rfl
theorem HW:aP Tryz.prog 24=1:=by kernel_rfl
theorem lK:loadT Tryz.prog 26=some (true,2):=by kernel_rfl
theorem oQ:aS Tryz.prog 26=some 2:=by kernel_rfl
theorem TJ:(aB Tryz.prog 26).map (fun z=>(ofValue z).cells)=some [.o (.str []),.o .nilS]:=by kernel_rfl
theorem Ue:aP Tryz.prog 26=4:=by kernel_rfl
theorem kM:aI Tryz.prog 26 0=some (0,9,1):=by kernel_rfl
theorem iX:aI Tryz.prog 26 1=some (1,24,1):=by kernel_rfl
def Jr:Nat→Option (Nat×Nat):=fun i=>(#[(0,1),(1,1)]:Array (Nat×Nat))[i]?
theorem PM:ca Tryz.prog 26=some Jr:=by kernel_rfl
theorem FC:Jr 0=some (0,1):=rfl
theorem Hx:Jr 1=some (1,1):=rfl
theorem fM:loadT Tryz.prog 92=some (true,2):=by kernel_rfl
theorem lD:aS Tryz.prog 92=some 2:=by kernel_rfl
theorem QX:cB Tryz.prog 92=some 24:=by kernel_rfl
theorem oX:(aB Tryz.prog 92).map (fun z=>(ofValue z).cells)=some [.o (.str []),.i .i64 0]:=by kernel_rfl
theorem Tx:∃ z,aB Tryz.prog 92=some z∧(ofValue z).cells.length=2:=by
 have h:=oX;cases hz:aB Tryz.prog 92 with
 | none=>rw[hz] at h;cases h
 | some z=>
  rw[hz] at h;exact ⟨z,rfl,by have:(ofValue z).cells=_:=Option.some.inj h;rw[this];rfl⟩
theorem Qw:aP Tryz.prog 92=4:=by kernel_rfl
theorem fG:aI Tryz.prog 92 0=some (0,9,1):=by kernel_rfl
theorem qx:aI Tryz.prog 92 1=some (1,3,1):=by kernel_rfl
def Jn:Nat→Option (Nat×Nat):=fun i=>(#[(0,1),(1,1)]:Array (Nat×Nat))[i]?
theorem IM:ca Tryz.prog 92=some Jn:=by kernel_rfl
theorem vl:Jn 0=some (0,1):=rfl
theorem vw:Jn 1=some (1,1):=rfl
theorem XD:eqK Tryz.prog 92=some [.s,.i]:=by kernel_rfl
theorem rD:loadT Tryz.prog 43=some (false,1):=by kernel_rfl
theorem CZ:aS Tryz.prog 43=some 1:=by kernel_rfl
theorem BW:(aB Tryz.prog 43).map (fun z=>(ofValue z).cells)=some [.o .nilS]:=by kernel_rfl
theorem dH:bm Tryz.prog 43=some (92,2):=by kernel_rfl
theorem eI:eu Tryz.prog 43=some 1:=by kernel_rfl
theorem Mu:aP Tryz.prog 43=1:=by kernel_rfl
theorem Hc:loadT Tryz.prog 152=some (true,2):=by kernel_rfl
theorem Fc:aS Tryz.prog 152=some 2:=by kernel_rfl
theorem DB:(aB Tryz.prog 152).map (fun z=>(ofValue z).cells)=some [.o (.str []),.i .i64 0]:=by kernel_rfl
theorem Hn:aP Tryz.prog 152=4:=by kernel_rfl
theorem we:aI Tryz.prog 152 0=some (0,9,1):=by kernel_rfl
theorem uQ:aI Tryz.prog 152 1=some (1,3,1):=by kernel_rfl
def vB:Nat→Option (Nat×Nat):=fun i=>(#[(0,1),(1,1)]:Array (Nat×Nat))[i]?
theorem Gx:ca Tryz.prog 152=some vB:=by kernel_rfl
theorem xj:vB 0=some (0,1):=rfl
theorem vM:vB 1=some (1,1):=rfl
theorem TT:eqK Tryz.prog 152=some [.s,.i]:=by kernel_rfl
theorem Po:loadT Tryz.prog 150=some (false,1):=by kernel_rfl
theorem Sw:aS Tryz.prog 150=some 1:=by kernel_rfl
theorem Ug:(aB Tryz.prog 150).map (fun z=>(ofValue z).cells)=some [.o .nilM]:=by kernel_rfl
theorem Tp:eu Tryz.prog 150=some 2:=by kernel_rfl
theorem TZ:ic Tryz.prog 150=some (152,3):=by kernel_rfl
theorem IS:bA Tryz.prog 152=2:=by kernel_rfl
theorem PY:aP Tryz.prog 150=2:=by kernel_rfl
theorem GD:loadT Tryz.prog 28=some (true,4):=by kernel_rfl
theorem Fq:aS Tryz.prog 28=some 4:=by kernel_rfl
theorem HN:(aB Tryz.prog 28).map (fun z=>(ofValue z).cells)=some [.o .nilS,.o .nilS,.o (.str []),.o .nilS]:=by kernel_rfl
theorem FG:aP Tryz.prog 28=4:=by kernel_rfl
theorem uE:aI Tryz.prog 28 0=some (0,22,1):=by kernel_rfl
theorem xc:aI Tryz.prog 28 1=some (1,23,1):=by kernel_rfl
theorem xd:aI Tryz.prog 28 2=some (2,26,2):=by kernel_rfl
def qg:Nat→Option (Nat×Nat):=fun i=>(#[(0,1),(1,1),(2,2)]:Array (Nat×Nat))[i]?
theorem Gm:ca Tryz.prog 28=some qg:=by kernel_rfl
theorem uG:qg 0=some (0,1):=rfl
theorem vq:qg 1=some (1,1):=rfl
theorem uO:qg 2=some (2,2):=rfl
theorem MP:loadT Tryz.prog 136=some (false,1):=by kernel_rfl
theorem Lq:aS Tryz.prog 136=some 1:=by kernel_rfl
theorem LP:(aB Tryz.prog 136).map (fun z=>(ofValue z).cells)=some [.o .nilS]:=by kernel_rfl
theorem LD:bm Tryz.prog 136=some (198,1):=by kernel_rfl
theorem Lp:eu Tryz.prog 136=some 1:=by kernel_rfl
theorem JZ:aP Tryz.prog 136=1:=by kernel_rfl
theorem tyF:type_of% (qA ae (qA aQ (qA Qj (qA Qd (qA sy (qA So (qA cD (qA rX (qA sw (qA Ty (qA pF (qA MF (qA Kj (qA Ll (qA rn (qA dI (qA qK (qA GO (qA qP (qA ot (qA lT (qA LU (qA bK (qA bV (qA LX (qA yR (qA xH (qA bX (qA Em (qA Gq (qA gT (qA dt (qA El (qA da (qA jg (qA eS (qA Uh (qA fa (qA bW (qA sX (qA pS (qA pV (qA lV (qA uu (qA Ki (qA fe (qA iL (qA MK (qA sC (qA JH (qA Iw (qA BG (qA wh (qA BD (qA Ql (qA pE (qA RC (qA Rt (qA RZ (qA wE (qA vV (qA Cp (qA Ez (qA FW (qA Dq (qA nK (qA MS (qA Kp (qA BE (qA Nj (qA kI (qA gC (qA sE (qA sJ (qA BS (qA zw (qA rV (qA AX (qA Ai (qA Cv (qA CV (qA KS (qA jL (qA Ls (qA KQ (qA wC (qA vt (qA HY (qA rk (qA Ei (qA Ev (qA Nh (qA LY (qA ug (qA MG (qA zZ (qA AA (qA Di (qA zY (qA AJ (qA iD (qA MI (qA LG (qA iJ (qA iP (qA MT (qA qz (qA Ck (qA Bz (qA Kr (qA kG (qA eE (qA eL (qA Mf (qA Aw (qA Ay (qA zc (qA Hs (qA HB (qA Hm (qA dT (qA kT (qA DW (qA Du (qA Fb (qA vi (qA HF (qA gG (qA vZ (qA vC (qA vp (qA vJ (qA Ab (qA Ag (qA zt (qA zF (qA sB (qA Az (qA AL (qA zy (qA tP (qA tr (qA AB (qA tE (qA tc (qA Gb (qA DV (qA DN (qA xk (qA GM (qA GX (qA Lf (qA MU (qA Dn (qA Km (qA zC (qA yp (qA sd (qA sI (qA Mz (qA ya (qA zk (qA yx (qA yE (qA Ek (qA FI (qA EJ (qA wJ (qA HD (qA FM (qA KP (qA KV (qA CX (qA LN (qA Am (qA xL (qA Lm (qA ze (qA yo (qA uC (qA BY (qA CT (qA PU (qA cF (qA dN (qA Bm (qA rm (qA qO (qA cP (qA KA (qA KM (qA iG (qA dY (qA uv (qA iu (qA sj (qA nC (qA RI (qA iT (qA kh (qA mP (qA JJ (qA EI (qA FA (qA Ho (qA Ff (qA EZ (qA Ep (qA Gu (qA DD (qA GG (qA zT (qA zB (qA zM (qA Bd (qA yZ (qA Ak (qA MY (qA MW (qA Mj (qA No (qA xN (qA yj (qA AH (qA Lr (qA zg (qA Bc (qA yN (qA DF (qA He (qA GY (qA FJ (qA Ht (qA HK (qA RW (qA SZ (qA Rj (qA Qh (qA Dp (qA HL (qA Et (qA DJ (qA Sp (qA Hv (qA DM (qA GV (qA Ew (qA RJ (qA TX (qA QA (qA TH (qA Nc (qA LA (qA Dk (qA KE (qA zP (qA AW (qA MR (qA Aa (qA zJ (qA ER (qA Fm (qA EA (qA wg (qA Ey (qA qw (qA Bl (qA Kc (qA BB (qA ML (qA zr (qA sS (qA sk (qA yy (qA kA (qA zq (qA zQ (qA Mb (qA yO (qA zm (qA AZ (qA Be (qA yY (qA yD (qA Aq (qA ju (qA Fx (qA Gg (qA gV (qA Hq (qA HW (qA lK (qA oQ (qA TJ (qA Ue (qA kM (qA iX (qA PM (qA FC (qA Hx (qA fM (qA lD (qA oX (qA Qw (qA fG (qA qx (qA IM (qA vl (qA vw (qA rD (qA CZ (qA BW (qA dH (qA eI (qA Mu (qA Hc (qA Fc (qA DB (qA Hn (qA we (qA uQ (qA Gx (qA xj (qA vM (qA Po (qA Sw (qA Ug (qA Tp (qA TZ (qA IS (qA PY (qA GD (qA Fq (qA HN (qA FG (qA uE (qA xc (qA xd (qA Gm (qA uG (qA vq (qA uO (qA MP (qA Lq (qA LP (qA LD (qA Lp JZ))))))))))))))))))))))))))))))))))))))))))))))))))))))))))))))))))))))))))))))))))))))))))))))))))))))))))))))))))))))))))))))))))))))))))))))))))))))))))))))))))))))))))))))))))))))))))))))))))))))))))))))))))))))))))))))))))))))))))))))))))))))))))))))))))))))))))))))))))))))))))))))))))))))))))))))))))))))))))))))))))))))))))))))))))))))))))):=qA ae (qA aQ (qA Qj (qA Qd (qA sy (qA So (qA cD (qA rX (qA sw (qA Ty (qA pF (qA MF (qA Kj (qA Ll (qA rn (qA dI (qA qK (qA GO (qA qP (qA ot (qA lT (qA LU (qA bK (qA bV (qA LX (qA yR (qA xH (qA bX (qA Em (qA Gq (qA gT (qA dt (qA El (qA da (qA jg (qA eS (qA Uh (qA fa (qA bW (qA sX (qA pS (qA pV (qA lV (qA uu (qA Ki (qA fe (qA iL (qA MK (qA sC (qA JH (qA Iw (qA BG (qA wh (qA BD (qA Ql (qA pE (qA RC (qA Rt (qA RZ (qA wE (qA vV (qA Cp (qA Ez (qA FW (qA Dq (qA nK (qA MS (qA Kp (qA BE (qA Nj (qA kI (qA gC (qA sE (qA sJ (qA BS (qA zw (qA rV (qA AX (qA Ai (qA Cv (qA CV (qA KS (qA jL (qA Ls (qA KQ (qA wC (qA vt (qA HY (qA rk (qA Ei (qA Ev (qA Nh (qA LY (qA ug (qA MG (qA zZ (qA AA (qA Di (qA zY (qA AJ (qA iD (qA MI (qA LG (qA iJ (qA iP (qA MT (qA qz (qA Ck (qA Bz (qA Kr (qA kG (qA eE (qA eL (qA Mf (qA Aw (qA Ay (qA zc (qA Hs (qA HB (qA Hm (qA dT (qA kT (qA DW (qA Du (qA Fb (qA vi (qA HF (qA gG (qA vZ (qA vC (qA vp (qA vJ (qA Ab (qA Ag (qA zt (qA zF (qA sB (qA Az (qA AL (qA zy (qA tP (qA tr (qA AB (qA tE (qA tc (qA Gb (qA DV (qA DN (qA xk (qA GM (qA GX (qA Lf (qA MU (qA Dn (qA Km (qA zC (qA yp (qA sd (qA sI (qA Mz (qA ya (qA zk (qA yx (qA yE (qA Ek (qA FI (qA EJ (qA wJ (qA HD (qA FM (qA KP (qA KV (qA CX (qA LN (qA Am (qA xL (qA Lm (qA ze (qA yo (qA uC (qA BY (qA CT (qA PU (qA cF (qA dN (qA Bm (qA rm (qA qO (qA cP (qA KA (qA KM (qA iG (qA dY (qA uv (qA iu (qA sj (qA nC (qA RI (qA iT (qA kh (qA mP (qA JJ (qA EI (qA FA (qA Ho (qA Ff (qA EZ (qA Ep (qA Gu (qA DD (qA GG (qA zT (qA zB (qA zM (qA Bd (qA yZ (qA Ak (qA MY (qA MW (qA Mj (qA No (qA xN (qA yj (qA AH (qA Lr (qA zg (qA Bc (qA yN (qA DF (qA He (qA GY (qA FJ (qA Ht (qA HK (qA RW (qA SZ (qA Rj (qA Qh (qA Dp (qA HL (qA Et (qA DJ (qA Sp (qA Hv (qA DM (qA GV (qA Ew (qA RJ (qA TX (qA QA (qA TH (qA Nc (qA LA (qA Dk (qA KE (qA zP (qA AW (qA MR (qA Aa (qA zJ (qA ER (qA Fm (qA EA (qA wg (qA Ey (qA qw (qA Bl (qA Kc (qA BB (qA ML (qA zr (qA sS (qA sk (qA yy (qA kA (qA zq (qA zQ (qA Mb (qA yO (qA zm (qA AZ (qA Be (qA yY (qA yD (qA Aq (qA ju (qA Fx (qA Gg (qA gV (qA Hq (qA HW (qA lK (qA oQ (qA TJ (qA Ue (qA kM (qA iX (qA PM (qA FC (qA Hx (qA fM (qA lD (qA oX (qA Qw (qA fG (qA qx (qA IM (qA vl (qA vw (qA rD (qA CZ (qA BW (qA dH (qA eI (qA Mu (qA Hc (qA Fc (qA DB (qA Hn (qA we (qA uQ (qA Gx (qA xj (qA vM (qA Po (qA Sw (qA Ug (qA Tp (qA TZ (qA IS (qA PY (qA GD (qA Fq (qA HN (qA FG (qA uE (qA xc (qA xd (qA Gm (qA uG (qA vq (qA uO (qA MP (qA Lq (qA LP (qA LD (qA Lp JZ))))))))))))))))))))))))))))))))))))))))))))))))))))))))))))))))))))))))))))))))))))))))))))))))))))))))))))))))))))))))))))))))))))))))))))))))))))))))))))))))))))))))))))))))))))))))))))))))))))))))))))))))))))))))))))))))))))))))))))))))))))))))))))))))))))))))))))))))))))))))))))))))))))))))))))))))))))))))))))))))))))))))))))))))))))))))))
end Go.Proofs.YtnhbkodnmkojpaaGreat
end

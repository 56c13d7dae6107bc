/- A part of the proof: BkTb3, BkTb4, BkTb5, BkTb6, BkTb7, BkTb8, BkTb9, BkTb10, BkTb11, BkTb12, BkTb13, BkTb14. No conditions. -/
import Derived.Test.YtnhbkodnmkojpaaGreatQAn
set_option maxRecDepth 100000
set_option maxHeartbeats 64000000
set_option linter.unusedVariables false
set_option linter.unusedSimpArgs false
noncomputable section
namespace Go.Proofs.YtnhbkodnmkojpaaGreat
open Go Go.Eng
theorem vF (H:Hp) (v:AC) (l:List Pr) (hv:SlP H v l) (hL:l.length≤4611686018427387904):Con E2 164 [.one v] H (fun _=>False) fun r _=>r=.one (.i .i64 (jl l)):=by
 refine Con.of rfl fun lg=>?_;have hv:SlP ⟨H.t,H.nx,lg⟩ v l:=hv;generalize (⟨H.t,H.nx,lg⟩:Hp)=H at hv ⊢;refine C1.body (E:=E2) (nt:=37) (res:=[.tmp 2]) Tryz.func164 rfl rfl rfl rfl rfl fun tm A0=>?_;have h0:=A0 0 _ rfl;clear A0;have fin:∀ (e:Int) (A:ab) (H3:Hp),slot A.tm 2=.one (.i .i64 e)→A.dfr=[]→Gr H H3→e=jl l→∃ w H4,aC E2 [.tmp 2] (.ret,A,H3)=.ok [(w,H4)]∧Gr H H4∧∀ _:List Nat,w=.one (.i .i64 (jl l)):=fun e A H3 h1 h2 h3 h4=>⟨_,H3,aj (.i .i64 e) (.inr rfl) h2 h1,h3,fun _=>by rw[h4]⟩;generalize E0:jl l=r0 at fin;have l1:=hv.len;have l2:=hv.lt;by_cases q1:(16:Int)<l.length
 ·have hn:42=r0:=by rw[←E0];exact (zB0 q1).symm
  replace hn:Hd _:=hn;clear E0;refine zW tyF ?_;exact fin (42) _ _ qp qe (Fr.refl _) (hn.out)
 have hn:Hd (goW [] l=r0):=by rw[←E0];exact (zB1 q1).symm
 clear E0;refine zW tyF ?_;refine R1.dp fun K k1 k2 k3 k4=>?_;refine R1.loop (fun z A H3=>∃ i:Nat,z=l.length - i∧i≤l.length∧Gr H H3∧Hd (goW (l.take i) (l.drop i)=r0)∧slot A.tm 0=.one (v)∧slot A.tm 8=.one (v)∧slot A.tm 9=.one (.i .i64 (l.length:Int))∧slot A.tm 10=.one (.i .i64 (i:Int))∧A.nt=37∧A.dfr=[]) ?_ l.length
  ⟨0,rfl,Nat.zero_le _,Fr.refl _,hn,zL⟩
 clear h0 hn tm l1 l2 k3;rintro z A H3 ⟨i,rfl,hi,g3,hr,t0,t8,t9,t10,B0,C0⟩;have C8:=hv.gr g3;refine zW tyF ?_;refine zI tyF (fun hc=>?_) (fun hc=>?_)
 ·have D0:i<l.length:=by omega
  have ex:=zB4 D0;have O0:=zC1 D0;have Z0:=zC2 D0;have G0:l[i]∈l:=List.getElem_mem D0;generalize l[i]=x at ex O0 Z0 G0;have Q1:=zC0 i (by omega);obtain ⟨id,g,off,cells,rfl,hid,R0,J0⟩:=C8.open (by omega);have K0:=J0 i x ex;obtain ⟨s,k⟩:=x;have y1:(cells.drop (off+i*2)).take 2=[.o (.str s),.i .i64 k]:=K0.all;have y2:=K0.le;have S0:=hr.out;rw[O0,goW] at S0;clear K0 G0 O0 hr;rw[Z0.symm] at S0;replace S0:Hd _:=S0;refine zW tyF ?_;refine R1.dp fun K2 p1 p2 p3 p4=>?_;refine zG (qA tyF (ixC D0)) fun K3 T4=>?_;refine T4.out _ _ ?_;refine R1.gen (fun A4 H4=>Gr H3 H4∧H3.nx<H4.nx∧H4.get H3.nx=some (.arr [.o (.str s),.i .i64 k] 185 0 0)∧slot A4.tm 0=.one ((.o (.sl id g off l.length 2)))∧slot A4.tm 3=.one (.i .i64 (i:Int))∧slot A4.tm 4=.one ((.o (.ptr H3.nx 0 0 2)))∧slot A4.tm 8=.one ((.o (.sl id g off l.length 2)))∧slot A4.tm 9=.one (.i .i64 (l.length:Int))∧slot A4.tm 10=.one (.i .i64 (i:Int))∧A4.nt=37∧A4.dfr=[])
   ⟨((Fr.refl _).new _).mod _ (.inl (zA1 _)),zA6 _,ak rfl,zL⟩ ?_
  clear t0 t8 t9 t10 B0 C0 A y1 y2 T4 K3;rintro A H4 ⟨g4,m1,rx,t0,t3,t4,t8,t9,t10,B0,C0⟩;obtain ⟨N,hN⟩:∃ N,N=H3.nx:=⟨_,rfl⟩;rw[←hN] at m1 rx t4;clear hN;have hgr4:rowOf (H4.get id) g=some cells:=by rw[g4.get _ hid zB2];exact R0
  have y7:id<H4.nx:=zA0 hid g4.nx;have g14:=g3.gr g4;clear R0 hid C8 g4 g3;refine zG (qA tyF oA) fun K3 T4=>?_;refine WE.con (vX H4 s k) fun w H5 g5 hq=>?_;subst hq;have rx:=(g5.get _ m1 zB2).trans rx;have m1:=zA0 m1 g5.nx;have hgr5:rowOf (H5.get id) g=some cells:=by rw[g5.get _ y7 zB2];exact hgr4
  have j_:id<H5.nx:=zA0 y7 g5.nx;have g15:=g14.gr g5;clear hgr4 y7 g14 g5;cases e1:rW (s,k) with
  | false=>
   have hn:42=r0:=by rw[←S0.out];exact (zB0 e1).symm
   replace hn:Hd _:=hn;clear S0;refine zK (qA tyF oA) ?_;exact p4.out _ _ (k4.out _ _ (fin (42) _ _ qp qe (g15) (hn.out)))
  | true=>
   have X0:=S0.out;rw[zB1 (by rw[e1];decide)] at X0;replace X0:Hd _:=X0;clear S0;have go:Hd (∀ (A:ab),slot A.tm 0=.one ((.o (.sl id g off l.length 2)))∧slot A.tm 8=.one ((.o (.sl id g off l.length 2)))∧slot A.tm 9=.one (.i .i64 (l.length:Int))∧slot A.tm 10=.one (.i .i64 (i:Int))∧A.nt=37∧A.dfr=[]→goW (l.take (i+1)) (l.drop (i+1))=r0→K2 .normal A H5):=by
    clear t0 t3 t4 t8 t9 t10 B0 C0 T4 X0;rintro A ⟨t0,t8,t9,t10,B0,C0⟩ T2;replace T2:Hd _:=T2;refine p1.out _ _ ?_;refine zW tyF ?_;exact ⟨l.length - (i+1),by omega,i+1,rfl,D0,g15,T2,zL⟩
   by_cases q5:k=5
   ·subst q5;by_cases q0:0<i
    ·have hi1:i - 1<l.length:=by omega
     have ey:l[i - 1]?=some l[i - 1]:=zB4 hi1;have F1:=J0 (i - 1) _ ey;have hgw:RI (l.take i)=(l[i - 1].2==5):=by
      unfold RI;rw[MN q0 ey];rfl
     generalize l[i - 1]=y at ey F1 hgw;have z1:(cells.drop (off+(i - 1)*2+1)).headD (.b false)=.i .i64 y.2:=F1.snd;have z2:=F1.le2;have Q8:IntKind.i64.wrap ((i:Int) - 1)=((i - 1:Nat):Int):=by rw[bx (by omega) (by omega)];omega
     have e0:(0:Int)<(i:Int):=by omega
     clear F1 J0 ex ey;cases e5:(y.2==5) with
     | true=>
      have hn:42=r0:=by rw[←X0.out];exact (zB0 ⟨rfl,hgw.trans e5⟩).symm
      replace hn:Hd _:=hn;replace hgw:Hd _:=hgw;clear X0 go;refine zK (qA tyF (ixC hi1)) ?_;exact p4.out _ _ (k4.out _ _ (fin (42) _ _ qp qe (g15) (hn.out)))
     | false=>
      have hn:goW (l.take (i+1)) (l.drop (i+1))=r0:=by rw[←X0.out];exact (zB1 (fun h=>by rw[hgw,e5] at h;exact absurd h.2 (by decide))).symm
      replace hn:Hd _:=hn;replace hgw:Hd _:=hgw;clear X0;refine zK (qA tyF (ixC hi1)) ?_;exact go.out _ zL hn.out
    have E4:i=0:=by omega
    subst E4;have hn:goW (l.take (0+1)) (l.drop (0+1))=r0:=by rw[←X0.out];exact (zB1 (fun h=>by have h2:RI (l.take 0)=true:=h.2;rw[List.take_zero] at h2;exact absurd h2 (by decide))).symm
    replace hn:Hd _:=hn;clear X0 J0 ex;refine zK tyF ?_;exact go.out _ zL hn.out
   have e5:(k==5)=false:=zB5 q5;have hn:goW (l.take (i+1)) (l.drop (i+1))=r0:=by rw[←X0.out];exact (zB1 (fun h=>q5 h.1)).symm
   replace hn:Hd _:=hn;clear X0 q5 J0 ex;refine zK tyF ?_;exact go.out _ zL hn.out
 have he:i=l.length:=by omega
 subst he;have hn:=hr.out;rw[List.drop_length,goW] at hn;replace hn:Hd _:=hn;clear hr;refine zW tyF ?_;refine k2.out _ _ ?_;refine zW tyF ?_;exact fin (0) _ _ qp qe (g3) (hn.out)
theorem vU (H:Hp) (f cl ln k:Int) (nm:Nm) (gd:List UInt8) (ws:List Pr) (p q w:AC) (hp:aO H p nm.1) (hq:aO H q nm.2) (hw:SlP H w ws):
  Con E2 163 [.agg [.i .i64 f,.i .i64 cl,.i .i64 ln,.i .i64 k,p,q,.o (.str gd),w]] H (fun _=>False) fun r _=>r=.one (.b (gb ⟨f,cl,ln,k,nm,gd,ws⟩)):=by
 refine Con.of rfl fun lg=>?_;have hp:aO ⟨H.t,H.nx,lg⟩ p nm.1:=hp;have hq:aO ⟨H.t,H.nx,lg⟩ q nm.2:=hq;have hw:SlP ⟨H.t,H.nx,lg⟩ w ws:=hw;generalize (⟨H.t,H.nx,lg⟩:Hp)=H at hp hq hw ⊢;refine C1.body (E:=E2) (nt:=70) (res:=[.tmp 2]) Tryz.func163 rfl rfl rfl rfl rfl fun tm A0=>?_;have h0:=A0 0 _ rfl;clear A0;have fin:∀ (e:Bool) (A:ab) (H3:Hp),slot A.tm 2=.one (.b e)→A.dfr=[]→Gr H H3→e=gb ⟨f,cl,ln,k,nm,gd,ws⟩→∃ w H4,aC E2 [.tmp 2] (.ret,A,H3)=.ok [(w,H4)]∧Gr H H4∧∀ _:List Nat,w=.one (.b (gb ⟨f,cl,ln,k,nm,gd,ws⟩)):=fun e A H3 h1 h2 h3 h4=>⟨_,H3,aj (.b e) (.inr rfl) h2 h1,h3,fun _=>by rw[h4]⟩;generalize E0:gb ⟨f,cl,ln,k,nm,gd,ws⟩=r0 at fin;have lp:=hp.lt;have lq:=hq.lt;have lw:=hw.lt;refine zG tyF fun K hK=>?_;refine hK.out _ _ ?_;refine R1.gen (fun A1 H1=>Gr H H1∧H.nx<H1.nx∧H1.get H.nx=some (.arr [.i .i64 f,.i .i64 cl,.i .i64 ln,.i .i64 k,p,q,.o (.str gd),w] 69 0 0)∧slot A1.tm 1=.one ((.o (.ptr H.nx 0 0 8)))∧A1.nt=70∧A1.dfr=[])
  ⟨(Fr.refl _).new _,zA6 _,az rfl,zL⟩ ?_
 clear h0 tm hK K lp lq lw;rintro A1 H1 ⟨g1,m1,rx,t1,B0,C0⟩;obtain ⟨N,hN⟩:∃ N,N=H.nx:=⟨_,rfl⟩;rw[←hN] at m1 rx t1;clear hN;have hp:=hp.gr g1;have hq:=hq.gr g1;have hw:=hw.gr g1;replace E0:Hd _:=E0;by_cases h1:f<1
 ·have hn:false=r0:=by
   rw[←E0.out];exact (zB0 (by show f<1∨6<f∨cl<1∨12<cl∨ln<1∨99<ln;omega)).symm
  replace hn:Hd _:=hn;clear E0;refine zW tyF ?_;exact fin (false) _ _ qp qe (g1) (hn.out)
 by_cases h2:6<f
 ·have hn:false=r0:=by
   rw[←E0.out];exact (zB0 (by show f<1∨6<f∨cl<1∨12<cl∨ln<1∨99<ln;omega)).symm
  replace hn:Hd _:=hn;clear E0;refine zW tyF ?_;exact fin (false) _ _ qp qe (g1) (hn.out)
 by_cases h3:cl<1
 ·have hn:false=r0:=by
   rw[←E0.out];exact (zB0 (by show f<1∨6<f∨cl<1∨12<cl∨ln<1∨99<ln;omega)).symm
  replace hn:Hd _:=hn;clear E0;refine zW tyF ?_;exact fin (false) _ _ qp qe (g1) (hn.out)
 by_cases h4:12<cl
 ·have hn:false=r0:=by
   rw[←E0.out];exact (zB0 (by show f<1∨6<f∨cl<1∨12<cl∨ln<1∨99<ln;omega)).symm
  replace hn:Hd _:=hn;clear E0;refine zW tyF ?_;exact fin (false) _ _ qp qe (g1) (hn.out)
 by_cases h5:ln<1
 ·have hn:false=r0:=by
   rw[←E0.out];exact (zB0 (by show f<1∨6<f∨cl<1∨12<cl∨ln<1∨99<ln;omega)).symm
  replace hn:Hd _:=hn;clear E0;refine zW tyF ?_;exact fin (false) _ _ qp qe (g1) (hn.out)
 by_cases h6:99<ln
 ·have hn:false=r0:=by
   rw[←E0.out];exact (zB0 (by show f<1∨6<f∨cl<1∨12<cl∨ln<1∨99<ln;omega)).symm
  replace hn:Hd _:=hn;clear E0;refine zW tyF ?_;exact fin (false) _ _ qp qe (g1) (hn.out)
 have hr:=E0.out;unfold gb at hr;rw[zB1 (by show ¬(f<1∨6<f∨cl<1∨12<cl∨ln<1∨99<ln);omega)] at hr;clear E0;have lp:=hp.len;have lq:=hq.len;have lp2:=hp.lt;have lq2:=hq.lt;have lw2:=hw.lt;by_cases q4:k=4
 ·rw[zB0 (by exact q4)] at hr;subst q4;cases e1:decide (nm.1.length=0) with
  | false=>
   have hn:false=r0:=by rw[←hr];exact (by rw[show (decide ((⟨f,cl,ln,4,nm,gd,ws⟩:Cs).num.1.length=0))=false from e1];rfl)
   have z1:((nm.1.length:Int)==0)=false:=zB5 (fun h=>by rw[decide_eq_false_iff_not] at e1;omega);replace hn:Hd _:=hn;clear hr e1;refine zW tyF ?_;refine R1.dp fun K2 p1 p2 p3 p4=>?_;refine zW tyF ?_;exact p4.out _ _ (fin (false) _ _ qp qe (g1) (hn.out))
  | true=>
   have z1:((nm.1.length:Int)==0)=true:=by rw[decide_eq_true_eq] at e1;rw[beq_iff_eq];omega
   cases e2:decide (nm.2.length=0) with
   | false=>
    have hn:false=r0:=by rw[←hr];exact (by rw[show (decide ((⟨f,cl,ln,4,nm,gd,ws⟩:Cs).num.1.length=0))=true from e1,show (decide ((⟨f,cl,ln,4,nm,gd,ws⟩:Cs).num.2.length=0))=false from e2];rfl)
    have z2:((nm.2.length:Int)==0)=false:=zB5 (fun h=>by rw[decide_eq_false_iff_not] at e2;omega);replace hn:Hd _:=hn;clear hr e1 e2;refine zW tyF ?_;refine R1.dp fun K2 p1 p2 p3 p4=>?_;refine zW tyF ?_;exact p4.out _ _ (fin (false) _ _ qp qe (g1) (hn.out))
   | true=>
    have z2:((nm.2.length:Int)==0)=true:=by rw[decide_eq_true_eq] at e2;rw[beq_iff_eq];omega
    have hn:lEq gd []=r0:=by rw[←hr];exact (by rw[show (decide ((⟨f,cl,ln,4,nm,gd,ws⟩:Cs).num.1.length=0))=true from e1,show (decide ((⟨f,cl,ln,4,nm,gd,ws⟩:Cs).num.2.length=0))=true from e2];rfl)
    replace hn:Hd _:=hn;clear hr e1 e2;refine zW tyF ?_;refine R1.dp fun K2 p1 p2 p3 p4=>?_;refine zW tyF ?_;exact p4.out _ _ (fin (lEq gd []) _ _ qp qe (g1) (hn.out))
 rw[zB1 (by exact q4)] at hr;by_cases q3:k=1∨k=2∨k=3
 ·rw[zB0 (by exact q3)] at hr;replace hr:Hd ((decide (cC nm=0)&&(lEq gd []||nmB gd))=r0):=hr;clear q4 lp lq;rcases q3 with rfl|rfl|rfl <;>
  ·refine zW tyF ?_;refine R1.dp fun K2 p1 p2 p3 p4=>?_;refine zW tyF ?_;refine zG (qA tyF (qA jc dP)) fun K hK=>?_;refine WE.con (hG H1 p q nm hp hq) fun w2 H2 g2 C4=>?_;subst C4;have rx:=(g2.get _ m1 zB2).trans rx;have m1:=zA0 m1 g2.nx;have g12:=g1.gr g2;clear g1 g2;cases e1:decide (cC nm=0) with
   | false=>
    have z1:(cC nm==0)=false:=zB5 (of_decide_eq_false e1);have hn:false=r0:=by rw[←hr.out,e1];rfl
    replace hn:Hd _:=hn;clear hr e1;refine zK tyF ?_;exact p4.out _ _ (fin (false) _ _ qp qe (g12) (hn.out))
   | true=>
    have z1:(cC nm==0)=true:=beq_iff_eq.2 (of_decide_eq_true e1);cases e2:lEq gd [] with
    | true=>
     have hn:true=r0:=by rw[←hr.out,e1,e2];rfl
     replace hn:Hd _:=hn;clear hr e1;refine zK tyF ?_;exact p4.out _ _ (fin (true) _ _ qp qe (g12) (hn.out))
    | false=>
     have hn:nmB gd=r0:=by rw[←hr.out,e1,e2];rfl
     replace hn:Hd _:=hn;clear hr e1;refine zS (qA tyF dP) ?_;refine WE.con (nN (X:=fun _=>False) gd _) fun w3 H3 g3 T8=>?_;subst T8;refine zK tyF ?_;exact p4.out _ _ (fin (nmB gd) _ _ qp qe (g12.gr g3) (hn.out))
 rw[zB1 (by exact q3)] at hr;have hn:false=r0:=hr;have e1:(k==1)=false:=zB5 (by omega);have e2:(k==2)=false:=zB5 (by omega);have e3:(k==3)=false:=zB5 (by omega);have e4:(k==4)=false:=zB5 q4;replace hn:Hd _:=hn;clear hr q3 q4;refine zW tyF ?_;refine R1.dp fun K2 p1 p2 p3 p4=>?_;refine zW tyF ?_;refine p1.out _ _ ?_;refine zW tyF ?_;exact fin (false) _ _ qp qe (g1) (hn.out)
theorem Lr (H:Hp) (c c':Cs) (p q w p' q' w':AC) (hp:ltV (.one p) H.nx) (hq:ltV (.one q) H.nx) (hw:ltV (.one w) H.nx) (F2:ltV (.one p') H.nx) (J3:ltV (.one q') H.nx) (U1:ltV (.one w') H.nx):
  Con E2 165 [.agg [.i .i64 c.face,.i .i64 c.col,.i .i64 c.line,.i .i64 c.kind,p,q,.o (.str c.aN),w],.agg [.i .i64 c'.face,.i .i64 c'.col,.i .i64 c'.line,.i .i64 c'.kind,p',q',.o (.str c'.aN),w']] H (fun _=>False) fun r _=>r=.one (.b (pP c' c)):=by
 refine Con.of rfl fun lg=>?_;have hp:ltV (.one p) (⟨H.t,H.nx,lg⟩:Hp).nx:=hp;have hq:ltV (.one q) (⟨H.t,H.nx,lg⟩:Hp).nx:=hq;have hw:ltV (.one w) (⟨H.t,H.nx,lg⟩:Hp).nx:=hw;have F2:ltV (.one p') (⟨H.t,H.nx,lg⟩:Hp).nx:=F2;have J3:ltV (.one q') (⟨H.t,H.nx,lg⟩:Hp).nx:=J3;have U1:ltV (.one w') (⟨H.t,H.nx,lg⟩:Hp).nx:=U1;generalize (⟨H.t,H.nx,lg⟩:Hp)=H at hp hq hw F2 J3 U1 ⊢;refine C1.body (E:=E2) (nt:=30) (res:=[.tmp 4]) Tryz.func165 rfl rfl rfl rfl rfl fun tm A0=>?_;have h0:=A0 0 _ rfl;have h1:=A0 1 _ rfl;clear A0;have fin:∀ (e:Bool) (A:ab) (H3:Hp),slot A.tm 4=.one (.b e)→A.dfr=[]→Gr H H3→e=pP c' c→∃ w H4,aC E2 [.tmp 4] (.ret,A,H3)=.ok [(w,H4)]∧Gr H H4∧∀ _:List Nat,w=.one (.b (pP c' c)):=fun e A H3 h1 h2 h3 h4=>⟨_,H3,aj (.b e) (.inr rfl) h2 h1,h3,fun _=>by rw[h4]⟩;generalize E0:pP c' c=r0 at fin;replace E0:Hd _:=E0;refine zG tyF fun K hK=>?_;refine hK.out _ _ ?_;refine R1.gen (fun A1 H1=>Gr H H1∧H.nx+1<H1.nx∧H1.get H.nx=some (.arr [.i .i64 c.face,.i .i64 c.col,.i .i64 c.line,.i .i64 c.kind,p,q,.o (.str c.aN),w] 69 0 0)∧H1.get (H.nx+1)=some (.arr [.i .i64 c'.face,.i .i64 c'.col,.i .i64 c'.line,.i .i64 c'.kind,p',q',.o (.str c'.aN),w'] 69 0 0)∧slot A1.tm 2=.one ((.o (.ptr H.nx 0 0 8)))∧slot A1.tm 3=.one ((.o (.ptr (H.nx+1) 0 0 8)))∧A1.nt=30∧A1.dfr=[])
  ⟨((Fr.refl _).new _).new _,by show H.nx+1<H.nx+1+1;omega,by rw[aM (by show H.nx<H.nx+1;omega)];exact az rfl,az rfl,zL⟩ ?_
 clear h0 h1 tm hK K hp hq hw F2 J3 U1;rintro A1 H1 ⟨g1,n1,ra,rb,t2,t3,B0,C0⟩;obtain ⟨N,hN⟩:∃ N,N=H.nx:=⟨_,rfl⟩;rw[←hN] at n1 ra rb t2 t3;clear hN;have n0:N<H1.nx:=by omega
 by_cases q1:c.face=c'.face
 ·have e1:(c.face==c'.face)=true:=beq_iff_eq.2 (by omega);by_cases q2:c.col=c'.col
  ·have hn:decide (c'.line<c.line)=r0:=by
    rw[←E0.out];unfold pP;rw[zB0 q1,zB0 q2]
   have e2:(c.col==c'.col)=true:=beq_iff_eq.2 (by omega);replace hn:Hd _:=hn;clear E0 q1 q2;refine zW tyF ?_;exact fin (decide (c'.line<c.line)) _ _ qp qe (g1) (hn.out)
  have hn:decide (c'.col<c.col)=r0:=by
   rw[←E0.out];unfold pP;rw[zB0 q1,zB1 q2]
  have e2:(c.col==c'.col)=false:=zB5 (fun h=>q2 (by omega));replace hn:Hd _:=hn;clear E0 q1 q2;refine zW tyF ?_;exact fin (decide (c'.col<c.col)) _ _ qp qe (g1) (hn.out)
 have hn:decide (c'.face<c.face)=r0:=by
  rw[←E0.out];unfold pP;rw[zB1 q1]
 have e1:(c.face==c'.face)=false:=zB5 (fun h=>q1 (by omega));replace hn:Hd _:=hn;clear E0 q1;refine zW tyF ?_;exact fin (decide (c'.face<c.face)) _ _ qp qe (g1) (hn.out)
theorem AZ:al Tryz.prog 163=true:=by kernel_rfl
theorem wi:al Tryz.prog 164=true:=by kernel_rfl
theorem NT:al Tryz.prog 165=true:=by kernel_rfl
theorem AE:al Tryz.prog 102=true:=by kernel_rfl
theorem uH:al Tryz.prog 52=true:=by kernel_rfl
theorem vW (H:Hp) (b:AC) (bf:List Cs) (c:Cs) (p q w:AC) (hb:ca H b bf) (hp:aO H p c.num.1) (hq:aO H q c.num.2) (hw:SlP H w c.ws) (hL:c.ws.length≤4611686018427387904) (hBF:bf.length≤4611686018427387904):
  Con E2 102 [.one b,.agg [.i .i64 c.face,.i .i64 c.col,.i .i64 c.line,.i .i64 c.kind,p,q,.o (.str c.aN),w]] H (fun _=>False) fun r _=>r=.one (.i .i64 (fI bf c)):=by
 refine Con.of rfl fun lg=>?_;have hb:ca ⟨H.t,H.nx,lg⟩ b bf:=hb;have hp:aO ⟨H.t,H.nx,lg⟩ p c.num.1:=hp;have hq:aO ⟨H.t,H.nx,lg⟩ q c.num.2:=hq;have hw:SlP ⟨H.t,H.nx,lg⟩ w c.ws:=hw;generalize (⟨H.t,H.nx,lg⟩:Hp)=H at hb hp hq hw ⊢;refine C1.body (E:=E2) (nt:=30) (res:=[.tmp 4]) Tryz.func102 rfl rfl rfl rfl rfl fun tm A0=>?_;have h0:=A0 0 _ rfl;have h1:=A0 1 _ rfl;clear A0;have fin:∀ (e:Int) (A:ab) (H3:Hp),slot A.tm 4=.one (.i .i64 e)→A.dfr=[]→Gr H H3→e=fI bf c→∃ w H4,aC E2 [.tmp 4] (.ret,A,H3)=.ok [(w,H4)]∧Gr H H4∧∀ _:List Nat,w=.one (.i .i64 (fI bf c)):=fun e A H3 h1 h2 h3 h4=>⟨_,H3,aj (.i .i64 e) (.inr rfl) h2 h1,h3,fun _=>by rw[h4]⟩;generalize E0:fI bf c=r0 at fin;have lb:=hb.lt;have lp:=hp.lt;have lq:=hq.lt;have lw:=hw.lt;refine zG tyF fun K hK=>?_;refine hK.out _ _ ?_;refine R1.gen (fun A1 H1=>Gr H H1∧H.nx<H1.nx∧H1.get H.nx=some (.arr [.i .i64 c.face,.i .i64 c.col,.i .i64 c.line,.i .i64 c.kind,p,q,.o (.str c.aN),w] 69 0 0)∧slot A1.tm 0=.one (b)∧slot A1.tm 3=.one ((.o (.ptr H.nx 0 0 8)))∧A1.nt=30∧A1.dfr=[])
  ⟨(Fr.refl _).new _,zA6 _,az rfl,zL⟩ ?_
 clear h0 h1 tm hK K lp lq lw lb;rintro A1 H1 ⟨g1,m1,rx,t0,t3,B0,C0⟩;obtain ⟨N,hN⟩:∃ N,N=H.nx:=⟨_,rfl⟩;rw[←hN] at m1 rx t3;clear hN;have hb:=hb.gr g1;have hp:=hp.gr g1;have hq:=hq.gr g1;have hw:=hw.gr g1;replace E0:Hd _:=E0;refine zG (qA tyF AZ) fun K hK=>?_;refine WE.con (vU H1 c.face c.col c.line c.kind c.num c.aN c.ws p q w hp hq hw) fun w2 H2 g2 C4=>?_;subst C4;have ec:gb ⟨c.face,c.col,c.line,c.kind,c.num,c.aN,c.ws⟩=gb c:=rfl;rw[ec];clear ec;have rx:=(g2.get _ m1 zB2).trans rx;have m1:=zA0 m1 g2.nx;have hb:=hb.gr g2;have hp:=hp.gr g2;have hq:=hq.gr g2;have hw:=hw.gr g2;have g2:=g1.gr g2;clear g1;cases e1:gb c with
 | false=>
  have hn:41=r0:=by rw[←E0.out];exact (zB0 e1).symm
  replace hn:Hd _:=hn;clear E0;refine zK tyF ?_;exact fin (41) _ _ qp qe (g2) (hn.out)
 | true=>
 have hr:=E0.out;unfold fI at hr;rw[zB1 (by rw[e1];decide)] at hr;replace hr:Hd _:=hr;replace e1:Hd _:=e1;clear E0;have lw:=hw.lt;refine zK tyF ?_;refine zG (qA tyF wi) fun K hK=>?_;refine WE.con (vF H2 w c.ws hw hL) fun w3 H3 g3 T8=>?_;subst T8;have rx:=(g3.get _ m1 zB2).trans rx;have m1:=zA0 m1 g3.nx;have hb:=hb.gr g3;have hp:=hp.gr g3;have hq:=hq.gr g3;have hw:=hw.gr g3;have g3:=g2.gr g3;clear g2 lw;rcases HL c.ws with ew|ew
 case inr=>
  have hn:42=r0:=by rw[←hr.out];exact (zB0 (by rw[ew];decide)).symm
  rw[ew];replace hn:Hd _:=hn;clear hr ew;refine zK tyF ?_;exact fin (42) _ _ qp qe (g3) (hn.out)
 replace hr:=hr.out;rw[zB1 (by rw[ew];decide)] at hr;rw[ew];clear ew;replace hr:Hd _:=hr;have lb:=hb.len;have lb2:=hb.lt;refine zK tyF ?_;by_cases q0:0<bf.length
 ·obtain ⟨id,g,off,cells,rfl,hid,R0,J0⟩:=hb.open q0;have hi1:bf.length - 1<bf.length:=by omega
  have ey:bf[bf.length - 1]?=some bf[bf.length - 1]:=zB4 hi1;obtain ⟨p',q',w',hy⟩:=J0 (bf.length - 1) _ ey;have hl:bf.getLast?=some bf[bf.length - 1]:=by rw[List.getLast?_eq_getElem?];exact ey
  generalize bf[bf.length - 1]=y at ey hy hl;have X0:=hr.out;rw[hl] at X0;have F2:=hy.of1;have J3:=hy.of2;have U1:=hy.of3;have y1:=hy.all;have y2:=hy.le;have Q8:IntKind.i64.wrap ((bf.length:Int) - 1)=((bf.length - 1:Nat):Int):=by rw[bx (by omega) (by omega)];omega
  have e0:(0:Int)<(bf.length:Int):=by omega
  clear hy J0 ey hl hr;have X0:(if (!pP y c)=true then (43:Int) else 0)=r0:=X0;replace X0:Hd _:=X0;skip
  refine zG (qA tyF (qA (ixC hi1) NT)) fun K hK=>?_;refine WE.con (Lr H3 c y p q w p' q' w' hp.lt hq.lt hw.lt F2.lt J3.lt U1.lt) fun w4 H4 g4 Z9=>?_;subst Z9;cases eb:pP y c with
  | false=>
   have hn:43=r0:=by rw[←X0.out,eb];rfl
   replace hn:Hd _:=hn;clear X0;refine zK tyF ?_;exact fin (43) _ _ qp qe (g3.gr g4) (hn.out)
  | true=>
   have hn:0=r0:=by rw[←X0.out,eb];rfl
   replace hn:Hd _:=hn;clear X0;refine zK tyF ?_;exact fin (0) _ _ qp qe (g3.gr g4) (hn.out)
 have hz:bf=[]:=List.eq_nil_of_length_eq_zero (by omega);subst hz;have hn:0=r0:=by rw[←hr.out];rfl
 replace hn:Hd _:=hn;clear hr;skip
 refine zW tyF ?_;exact fin (0) _ _ qp qe (g3) (hn.out)
theorem rI (H:Hp) (n:List UInt8) (b:AC) (l:List Cs) (hb:ca H b l) (hB:TbB l):Con E2 52 [.agg [.o (.str n),b]] H (fun _=>False) fun r _=>r=.one (.i .i64 (kE (n,l))):=by
 refine Con.of rfl fun lg=>?_;have hb:ca ⟨H.t,H.nx,lg⟩ b l:=hb;generalize (⟨H.t,H.nx,lg⟩:Hp)=H at hb ⊢;refine C1.body (E:=E2) (nt:=32) (res:=[.tmp 2]) Tryz.func52 rfl rfl rfl rfl rfl fun tm A0=>?_;have h0:=A0 0 _ rfl;clear A0;have fin:∀ (e:Int) (A:ab) (H3:Hp),slot A.tm 2=.one (.i .i64 e)→A.dfr=[]→Gr H H3→e=kE (n,l)→∃ w H4,aC E2 [.tmp 2] (.ret,A,H3)=.ok [(w,H4)]∧Gr H H4∧∀ _:List Nat,w=.one (.i .i64 (kE (n,l))):=fun e A H3 h1 h2 h3 h4=>⟨_,H3,aj (.i .i64 e) (.inr rfl) h2 h1,h3,fun _=>by rw[h4]⟩;generalize E0:kE (n,l)=r0 at fin;have hl:l.length*120≤140737488355328:=hB.c;have lb:=hb.lt;refine zG tyF fun K hK=>?_;refine hK.out _ _ ?_;refine R1.gen (fun A1 H1=>Gr H H1∧H.nx<H1.nx∧H1.get H.nx=some (.arr [.o (.str n),b] 26 0 0)∧slot A1.tm 1=.one ((.o (.ptr H.nx 0 0 2)))∧A1.nt=32∧A1.dfr=[])
  ⟨(Fr.refl _).new _,zA6 _,az rfl,zL⟩ ?_
 clear h0 tm hK K lb;rintro A1 H1 ⟨g1,m1,rx,t1,B0,C0⟩;obtain ⟨N,hN⟩:∃ N,N=H.nx:=⟨_,rfl⟩;rw[←hN] at m1 rx t1;clear hN;have hb:=hb.gr g1;replace E0:Hd _:=E0;refine zG (qA tyF dP) fun K hK=>?_;refine WE.con (nN (X:=fun _=>False) n _) fun w2 H2 g2 C4=>?_;subst C4;have rx:=(g2.get _ m1 zB2).trans rx;have m1:=zA0 m1 g2.nx;have hb:=hb.gr g2;have g2:=g1.gr g2;clear g1;cases e1:nmB n with
 | false=>
  have hn:40=r0:=by rw[←E0.out];exact (zB0 e1).symm
  replace hn:Hd _:=hn;clear E0;refine zK tyF ?_;exact fin (40) _ _ qp qe (g2) (hn.out)
 | true=>
 have hr:=E0.out;unfold kE at hr;rw[zB1 (by show ¬nmB n=false;rw[e1];decide)] at hr;clear E0;have l1:=hb.len;have l2:=hb.lt;by_cases q1:(256:Int)<l.length
 ·have hn:3=r0:=by rw[←hr];exact (zB0 q1).symm
  replace hn:Hd _:=hn;clear hr;refine zK tyF ?_;exact fin (3) _ _ qp qe (g2) (hn.out)
 have hn:Hd (goT [] l=r0):=by rw[←hr];exact (zB1 q1).symm
 clear hr;replace e1:Hd _:=e1;refine zK tyF ?_;refine R1.dp fun K k1 k2 k3 k4=>?_;refine R1.loop (fun z A H3=>∃ i:Nat,z=l.length - i∧i≤l.length∧Gr H2 H3∧Hd (goT (l.take i) (l.drop i)=r0)∧slot A.tm 1=.one ((.o (.ptr N 0 0 2)))∧slot A.tm 15=.one (b)∧slot A.tm 16=.one (.i .i64 (l.length:Int))∧slot A.tm 17=.one (.i .i64 (i:Int))∧A.nt=32∧A.dfr=[]) ?_ l.length
  ⟨0,rfl,Nat.zero_le _,Fr.refl _,hn,zL⟩
 clear t1 hn B0 C0 A1 l1 l2 k3;rintro z A H3 ⟨i,rfl,hi,g3,hr,t1,t15,t16,t17,B0,C0⟩;have Y8:=hb.gr g3;have rx:=(g3.get _ m1 zB2).trans rx;have m1:=zA0 m1 g3.nx;have l1:=Y8.len;have l2:=Y8.lt;refine zW tyF ?_;refine zI tyF (fun hc=>?_) (fun hc=>?_)
 ·have D0:i<l.length:=by omega
  have ex:=zB4 D0;have O0:=zC1 D0;have Z0:=zC2 D0;have G0:l[i]∈l:=List.getElem_mem D0;generalize l[i]=x at ex O0 Z0 G0;have Q1:=zC0 i (by omega);obtain ⟨id,g,off,cells,rfl,hid,R0,J0⟩:=Y8.open (by omega);obtain ⟨p,q,w,hx⟩:=J0 i x ex;have y1:=hx.all;have y2:=hx.le;have hp:=hx.of1;have hq:=hx.of2;have hw:=hx.of3;have lp:=hp.lt;have lq:=hq.lt;have lw:=hw.lt;have hwl:=hB.w x G0;have S0:=hr.out;rw[O0,goT,←Z0] at S0;replace S0:Hd _:=S0;replace ex:Hd _:=ex;clear hx J0 G0 O0 hr Z0 l1;refine zW tyF ?_;refine R1.dp fun K2 p1 p2 p3 p4=>?_;refine zG (qA tyF (ixC D0)) fun K3 T4=>?_;refine T4.out _ _ ?_;refine R1.gen (fun A4 H4=>Gr H3 H4∧H3.nx<H4.nx∧H4.get H3.nx=some (.arr [.i .i64 x.face,.i .i64 x.col,.i .i64 x.line,.i .i64 x.kind,p,q,.o (.str x.aN),w] 69 0 0)∧slot A4.tm 1=.one ((.o (.ptr N 0 0 2)))∧slot A4.tm 3=.one (.i .i64 (i:Int))∧slot A4.tm 4=.one ((.o (.ptr H3.nx 0 0 8)))∧slot A4.tm 15=.one ((.o (.sl id g off l.length 8)))∧slot A4.tm 16=.one (.i .i64 (l.length:Int))∧slot A4.tm 17=.one (.i .i64 (i:Int))∧A4.nt=32∧A4.dfr=[])
   ⟨((Fr.refl _).new _).mod _ (.inl (zA1 _)),zA6 _,ak rfl,zL⟩ ?_
  clear t1 t15 t16 t17 B0 C0 A y1 y2 T4 K3;rintro A H4 ⟨g34,mM,rM,t1,t3,t4,t15,t16,t17,B0,C0⟩;obtain ⟨M,hM⟩:∃ M,M=H3.nx:=⟨_,rfl⟩;rw[←hM] at mM rM t4;clear hM;have rx:=(g34.get _ m1 zB2).trans rx;have m1:=zA0 m1 g34.nx;have y1:True:=trivial;have y2:True:=trivial;have lp:=zN lp g34.nx;have lq:=zN lq g34.nx;have lw:=zN lw g34.nx;have l2:=zN l2 g34.nx;have G2:ca H4 (.o (.sl id g off i 8)) (l.take i):=SlR.take (hb.gr (g3.gr g34)) (by omega);refine zG (qA tyF (qA (ixC D0) (qA (slH (show i≤l.length by omega)) AE))) fun K3 T4=>?_;refine WE.con (vW H4 _ (l.take i) x p q w G2 (hp.gr g34) (hq.gr g34) (hw.gr g34) (by omega) (by rw[List.length_take];omega)) fun w5 H5 g5 Y6=>?_;subst Y6;have g35:=g34.gr g5;clear g34 G2 hp hq hw lp lq lw y1 y2 R0 hid;by_cases en:fI (l.take i) x=0
  ·have X0:=S0.out;rw[zB1 (fun h=>h en)] at X0;rw[en];replace X0:Hd _:=X0;clear S0 en;refine zK tyF ?_;refine p1.out _ _ ?_;refine zW tyF ?_;exact ⟨l.length - (i+1),by omega,i+1,rfl,D0,g3.gr g35,X0,zL⟩
  have hn:fI (l.take i) x=r0:=by rw[←S0.out];exact (zB0 en).symm
  have e2:(fI (l.take i) x==0)=false:=zB5 en;generalize fI (l.take i) x=e0 at hn e2;replace hn:Hd _:=hn;clear S0 en;refine zK tyF ?_;exact p4.out _ _ (k4.out _ _ (fin (e0) _ _ qp qe (g2.gr (g3.gr g35)) (hn.out)))
 have he:i=l.length:=by omega
 subst he;have hn:=hr.out;rw[List.drop_length,goT] at hn;replace hn:Hd _:=hn;clear hr;refine zW tyF ?_;refine k2.out _ _ ?_;refine zW tyF ?_;exact fin (0) _ _ qp qe (g2.gr g3) (hn.out)
theorem kK:al Tryz.prog 140=true:=by kernel_rfl
theorem GU:al Tryz.prog 166=true:=by kernel_rfl
theorem CC:Tryz.prog.underlying 64=some (.slice 181):=by kernel_rfl
theorem yp:Tryz.prog.underlying 67=some (.slice 185):=by kernel_rfl
theorem TX:∀ z:List AC,jn z 0=[]:=fun z=>rfl
theorem TD:type_of% (JF sW CC):=JF sW CC
theorem TQ:type_of% (JF oz yp):=JF oz yp
theorem Gz {H:Hp} {v:AC} {e:TypeId} {sz n:Nat} {cells:List AC} {r:Option Nat} (h:eo H v e sz n cells r):∀ i∈(AV.one v).ids,r=some i:=by
 rcases h with ⟨rfl,_⟩|⟨id,lo,gen,h1,rfl,_⟩
 ·intro i hi;cases hi
 intro i hi;rw[List.mem_singleton.1 hi];exact h1
theorem iU (H:Hp) (v:AC) (l:List Gp) (hv:aO H v l) (hL:l.length*32≤140737488355328):
  Con E2 140 [.one v] H (fun _=>False) fun r H'=>∃ v',r=.one v'∧aO H' v' l∧∀ i∈(AV.one v').ids,H.nx≤i:=by
 refine Con.of rfl fun lg=>?_;have hv:aO ⟨H.t,H.nx,lg⟩ v l:=hv;have e0:H.nx=(⟨H.t,H.nx,lg⟩:Hp).nx:=rfl;rw[e0];clear e0;generalize (⟨H.t,H.nx,lg⟩:Hp)=H at hv ⊢;refine C1.body (E:=E2) (nt:=8) (res:=[.tmp 2]) Tryz.func140 rfl rfl rfl rfl rfl fun tm A0=>?_;have h0:=A0 0 _ rfl;clear A0;obtain ⟨z,hz,M1⟩:=MQ;have I2:SlC H v 3 l.length (l.flatMap gpC):=hv;have D0:=hv.lt;rcases id I2 with ⟨hc,⟨rfl,D4⟩|⟨id,g,off,rfl,hid,hr⟩⟩
 ·have hl:l=[]:=List.eq_nil_of_length_eq_zero D4;subst hl;clear hz M1 z I2 hc D4 hv;refine zW (qA tyF TD) ?_;exact ⟨_,_,aj (.o .nilS) (.inr rfl) qe qp,Fr.refl _,fun _=>⟨_,rfl,aO.nil,fun i h=>by cases h⟩⟩
 obtain ⟨v',H',L1,ho,hf⟩:=xE (P:=Tryz.prog) (H:=H.new (.arr [] 181 0 0)) (t:=64) (id:=H.nx) eS MZ hz M1 (by decide) (az rfl) (zA6 _) (I2.gr ((Fr.refl _).new _)) (by omega);have hg:Gr H H':=((Fr.refl _).new _).then hf fun i h=>.inl (by omega);have X5:=ho.lt;clear hz M1 z hc;replace hv:Hd _:=hv;replace I2:Hd _:=I2;replace hr:Hd _:=hr;replace hf:Hd _:=hf;refine zW (qA tyF (qA TD TX)) ?_;exact ⟨_,_,aj v' (.inr rfl) qe qp,hg,fun _=>⟨v',rfl,ho.slc,fun i h=>by have:=Gz ho i h;cases this;exact zA1 _⟩⟩
theorem Cv (H:Hp) (v:AC) (l:List Pr) (hv:SlP H v l) (hL:l.length*24≤140737488355328):
  Con E2 166 [.one v] H (fun _=>False) fun r H'=>∃ v',r=.one v'∧SlP H' v' l∧∀ i∈(AV.one v').ids,H.nx≤i:=by
 refine Con.of rfl fun lg=>?_;have hv:SlP ⟨H.t,H.nx,lg⟩ v l:=hv;have e0:H.nx=(⟨H.t,H.nx,lg⟩:Hp).nx:=rfl;rw[e0];clear e0;generalize (⟨H.t,H.nx,lg⟩:Hp)=H at hv ⊢;refine C1.body (E:=E2) (nt:=8) (res:=[.tmp 2]) Tryz.func166 rfl rfl rfl rfl rfl fun tm A0=>?_;have h0:=A0 0 _ rfl;clear A0;obtain ⟨z,hz,M1⟩:=Sz;have I2:SlC H v 2 l.length (l.flatMap prC):=hv;have D0:=hv.lt;rcases id I2 with ⟨hc,⟨rfl,D4⟩|⟨id,g,off,rfl,hid,hr⟩⟩
 ·have hl:l=[]:=List.eq_nil_of_length_eq_zero D4;subst hl;clear hz M1 z I2 hc D4 hv;refine zW (qA tyF TQ) ?_;exact ⟨_,_,aj (.o .nilS) (.inr rfl) qe qp,Fr.refl _,fun _=>⟨_,rfl,SlP.nil,fun i h=>by cases h⟩⟩
 obtain ⟨v',H',L1,ho,hf⟩:=xE (P:=Tryz.prog) (H:=H.new (.arr [] 185 0 0)) (t:=67) (id:=H.nx) pH Rx hz M1 (by decide) (az rfl) (zA6 _) (I2.gr ((Fr.refl _).new _)) (by omega);have hg:Gr H H':=((Fr.refl _).new _).then hf fun i h=>.inl (by omega);have X5:=ho.lt;clear hz M1 z hc;replace hv:Hd _:=hv;replace I2:Hd _:=I2;replace hr:Hd _:=hr;replace hf:Hd _:=hf;refine zW (qA tyF (qA TQ TX)) ?_;exact ⟨_,_,aj v' (.inr rfl) qe qp,hg,fun _=>⟨v',rfl,ho.slc,fun i h=>by have:=Gz ho i h;cases this;exact zA1 _⟩⟩
theorem BA (H:Hp) (p q:AC) (x:Nm) (hp:aO H p x.1) (hq:aO H q x.2) (hL:x.1.length*32≤140737488355328∧x.2.length*32≤140737488355328):
  Con E2 78 [.agg [p,q]] H (fun _=>False) fun r H'=>∃ p' q',r=.agg [p',q']∧aO H' p' x.1∧aO H' q' x.2∧(∀ id∈(AV.one p').ids,H.nx≤id)∧∀ id∈(AV.one q').ids,H.nx≤id:=by
 refine Con.of rfl fun lg=>?_;have hp:aO ⟨H.t,H.nx,lg⟩ p x.1:=hp;have hq:aO ⟨H.t,H.nx,lg⟩ q x.2:=hq;have e0:H.nx=(⟨H.t,H.nx,lg⟩:Hp).nx:=rfl;rw[e0];clear e0;generalize (⟨H.t,H.nx,lg⟩:Hp)=H at hp hq ⊢;refine C1.body (E:=E2) (nt:=10) (res:=[.cell 2 66]) Tryz.func78 rfl rfl rfl rfl rfl fun tm A0=>?_;have h0:=A0 0 _ rfl;clear A0;have lp:=hp.lt;have lq:=hq.lt;refine zG tyF fun K hK=>?_;refine hK.out _ _ ?_;refine R1.gen (fun A1 H1=>Gr H H1∧H.nx+1<H1.nx∧H1.get H.nx=some (.arr [p,q] 66 0 0)∧H1.get (H.nx+1)=some (.arr [.o .nilS,.o .nilS] 66 0 0)∧slot A1.tm 1=.one ((.o (.ptr H.nx 0 0 2)))∧slot A1.tm 2=.one ((.o (.ptr (H.nx+1) 0 0 2)))∧A1.nt=10∧A1.dfr=[])
  ⟨((Fr.refl _).new _).new _,by show H.nx+1<H.nx+1+1;omega,by rw[aM (by show H.nx<H.nx+1;omega)];exact az rfl,az rfl,zL⟩ ?_
 clear h0 tm hK K lp lq;rintro A1 H1 ⟨g1,n1,r1,r2,t1,t2,B0,C0⟩;obtain ⟨N,hN⟩:∃ N,N=H.nx:=⟨_,rfl⟩;rw[←hN] at n1 r1 r2 t1 t2;replace hN:Hd _:=hN;have hp:=hp.gr g1;have hq:=hq.gr g1;have l1:N<H1.nx:=by omega
 have lp:=hp.lt;have lq:=hq.lt;repeat refine R1.au ?_
 repeat refine R1.au ?_
 (first|refine R1.lU (ms:=[0,1,3,0,8,31,63,127]) (by kernel_rfl) (by kernel_rfl) fun K hK=>?_|refine R1.e_drw (ms:=[0,1,3,0,8,31,63,127]) (by kernel_rfl) (by kernel_rfl) fun K hK=>?_)
 simp (config:={decide:=true}) only [qB,ay,Nat.reduceLT,Nat.reduceLeDiff,Nat.reduceAdd,Nat.reduceSub,qD,bK,aS,ae,t1,B0,r1,l1,cJ,dL,cT,kK]
 refine gX (fun r H'=>∃ v',r=.one v'∧aO H' v' x.1∧∀ i∈(AV.one v').ids,H1.nx≤i) (fun v h1 h2 hg ⟨v',a,b,c⟩=>⟨v',a,b.gr hg,c⟩) ?_ (fun h hg hn=>by have:=iU h p x.1 (hp.gr hg) hL.1;rw[hn] at this;exact this) ?_
 ·exact unU (by simp (config:={decide:=true}) only [aS,if_true])
 rintro w kx H2 ⟨p',rfl,F2,ip⟩ D_ J8 g2;subst J8;have r1:H2.get N=some (.arr [p,q] 66 0 0):=by rw[g2.get _ l1 zB2];exact r1
 have r2:H2.get (N+1)=some (.arr [.o .nilS,.o .nilS] 66 0 0):=by rw[g2.get _ n1 zB2];exact r2
 have n2:N+1<H2.nx:=zA0 n1 g2.nx;have l2:N<H2.nx:=by omega
 simp (config:={decide:=true}) only [qB,Nat.reduceLT,Nat.reduceAdd,qD,bK,aS,t1,B0,r1,l1,l2]
 refine gX (fun r H'=>∃ v',r=.one v'∧aO H' v' x.2∧∀ i∈(AV.one v').ids,H2.nx≤i) (fun v h1 h2 hg ⟨v',a,b,c⟩=>⟨v',a,b.gr hg,c⟩) ?_ (fun h hg hn=>by have:=iU h q x.2 ((hq.gr g2).gr hg) hL.2;rw[hn] at this;exact this) ?_
 ·exact unU (by simp (config:={decide:=true}) only [aS,if_true])
 rintro w kx H3 ⟨q',rfl,J3,iq⟩ D_ hn3 g3;subst hn3;have r2:H3.get (N+1)=some (.arr [.o .nilS,.o .nilS] 66 0 0):=by rw[g3.get _ n2 zB2];exact r2
 have n3:N+1<H3.nx:=zA0 n2 g3.nx;have S':=F2.gr g3;have g13:=(g1.gr g2).gr g3;have i12:=g1.nx;have i23:=g2.nx;replace i12:Hd _:=i12;replace i23:Hd _:=i23;have keep:∀ {u:AC} {l:List Gp},aO H3 u l→(∀ id∈(AV.one u).ids,H1.nx≤id)→aO (H3.mod (N+1) (.arr [p',q'] 66 0 0)) u l:=fun hu hi=>SlC.fr hu (X:=fun k=>k=N+1) ((Fr.refl _).mod _ (.inr rfl)) fun id h hh=>by have:=hi id h;omega
 have kp:=keep S' ip;have kq:=keep J3 (fun i h=>by have:=iq i h;have:=i23.out;omega);clear keep;replace kp:Hd _:=kp;replace kq:Hd _:=kq;simp (config:={decide:=true}) only [qB,Nat.reduceLeDiff,Nat.reduceAdd,qD,bK,bS,aS,t2,B0,KI vl Bb,oE,pJ,tZ,r2,n3]
 refine hK _ _ ?_;clear hK K;refine qV ?_;exact ⟨_,_,eQ (id:=N+1) (g:=0) lX (.inr rfl) (by simp only[ai,C0];rfl) (by simp only[aa,Nat.reduceEqDiff,reduceIte,t2]) (by rw[ak rfl];exact bX (zA1 _) (zA1 _)) (zA1 _) rfl,g13.mod _ (.inl (by have:=hN.out;omega)),fun _=>⟨p',q',rfl,kp.out,kq.out,fun id h=>by have:=ip id h;have:=i12.out;omega,fun id h=>by have:=iq id h;have:=i12.out;have:=i23.out;omega⟩⟩
def csC (c:Cs) (p q w:AC):List AC:=[.i .i64 c.face,.i .i64 c.col,.i .i64 c.line,.i .i64 c.kind,p,q,.o (.str c.aN),w]
theorem JQ (c:Cs) (p q w:AC):csC c p q w=[.i .i64 c.face,.i .i64 c.col,.i .i64 c.line,.i .i64 c.kind,p,q,.o (.str c.aN),w]:=rfl
def JY (n:Nat) (c:Cs) (r:AV) (H:Hp):Prop:=∃ c',r=.agg c'∧c'.length=8∧CsR H c' c∧∀ id∈jh c',n≤id
theorem Bk (H:Hp) (c:Cs) (p q w:AC) (hp:aO H p c.num.1) (hq:aO H q c.num.2) (hw:SlP H w c.ws) (hL:c.num.1.length*32≤140737488355328∧c.num.2.length*32≤140737488355328) (hW:c.ws.length*24≤140737488355328):
  Con E2 103 [.agg [.i .i64 c.face,.i .i64 c.col,.i .i64 c.line,.i .i64 c.kind,p,q,.o (.str c.aN),w]] H (fun _=>False) fun r H'=>JY H.nx c r H':=by
 unfold JY;refine Con.of rfl fun lg=>?_;have hp:aO ⟨H.t,H.nx,lg⟩ p c.num.1:=hp;have hq:aO ⟨H.t,H.nx,lg⟩ q c.num.2:=hq;have hw:SlP ⟨H.t,H.nx,lg⟩ w c.ws:=hw;have e0:H.nx=(⟨H.t,H.nx,lg⟩:Hp).nx:=rfl;rw[e0];clear e0;generalize (⟨H.t,H.nx,lg⟩:Hp)=H at hp hq hw ⊢;refine C1.body (E:=E2) (nt:=18) (res:=[.cell 2 69]) Tryz.func103 rfl rfl rfl rfl rfl fun tm A0=>?_;have h0:=A0 0 _ rfl;clear A0;have lp:=hp.lt;have lq:=hq.lt;have lw:=hw.lt;refine zG tyF fun K hK=>?_;refine hK.out _ _ ?_;refine R1.gen (fun A1 H1=>Gr H H1∧H.nx+1<H1.nx∧H1.get H.nx=some (.arr [.i .i64 c.face,.i .i64 c.col,.i .i64 c.line,.i .i64 c.kind,p,q,.o (.str c.aN),w] 69 0 0)∧H1.get (H.nx+1)=some (.arr [.i .i64 0,.i .i64 0,.i .i64 0,.i .i64 0,.o .nilS,.o .nilS,.o (.str []),.o .nilS] 69 0 0)∧slot A1.tm 1=.one ((.o (.ptr H.nx 0 0 8)))∧slot A1.tm 2=.one ((.o (.ptr (H.nx+1) 0 0 8)))∧A1.nt=18∧A1.dfr=[])
  ⟨((Fr.refl _).new _).new _,by show H.nx+1<H.nx+1+1;omega,by rw[aM (by show H.nx<H.nx+1;omega)];exact az rfl,az rfl,zL⟩ ?_
 clear h0 tm hK K lp lq lw;rintro A1 H1 ⟨g1,n1,r1,r2,t1,t2,B0,C0⟩;obtain ⟨N,hN⟩:∃ N,N=H.nx:=⟨_,rfl⟩;rw[←hN] at n1 r1 r2 t1 t2;replace hN:Hd _:=hN;have hp:=hp.gr g1;have hq:=hq.gr g1;have hw:=hw.gr g1;have l1:N<H1.nx:=by omega
 have lp:=hp.lt;have lq:=hq.lt;repeat refine R1.au ?_
 repeat refine R1.au ?_
 (first|refine R1.lU (ms:=[0,1,3,7,0,16,48,127,255,511,1023]) (by kernel_rfl) (by kernel_rfl) fun K hK=>?_|refine R1.e_drw (ms:=[0,1,3,7,0,16,48,127,255,511,1023]) (by kernel_rfl) (by kernel_rfl) fun K hK=>?_)
 simp (config:={decide:=true}) only [qB,ay,Nat.reduceLT,Nat.reduceLeDiff,Nat.reduceAdd,Nat.reduceSub,qD,bK,aS,ae,t1,B0,r1,l1,jK,cJ,dL,cT,kK]
 refine gX (fun r H'=>∃ v',r=.one v'∧aO H' v' c.num.1∧∀ i∈(AV.one v').ids,H1.nx≤i) (fun v h1 h2 hg ⟨v',a,b,c⟩=>⟨v',a,b.gr hg,c⟩) ?_ (fun h hg hn=>by have:=iU h p c.num.1 (hp.gr hg) hL.1;rw[hn] at this;exact this) ?_
 ·exact unU (by simp (config:={decide:=true}) only [aS,if_true])
 rintro w1 kx H2 ⟨p',rfl,F2,ip⟩ D_ J8 g2;subst J8;have r1:H2.get N=some (.arr [.i .i64 c.face,.i .i64 c.col,.i .i64 c.line,.i .i64 c.kind,p,q,.o (.str c.aN),w] 69 0 0):=by rw[g2.get _ l1 zB2];exact r1
 have r2:H2.get (N+1)=some (.arr [.i .i64 0,.i .i64 0,.i .i64 0,.i .i64 0,.o .nilS,.o .nilS,.o (.str []),.o .nilS] 69 0 0):=by rw[g2.get _ n1 zB2];exact r2
 have n2:N+1<H2.nx:=zA0 n1 g2.nx;have l2:N<H2.nx:=by omega
 simp (config:={decide:=true}) only [qB,Nat.reduceLT,Nat.reduceLeDiff,Nat.reduceAdd,Nat.reduceSub,qD,bK,aS,t1,B0,r1,l1,l2]
 refine gX (fun r H'=>∃ v',r=.one v'∧aO H' v' c.num.2∧∀ i∈(AV.one v').ids,H2.nx≤i) (fun v h1 h2 hg ⟨v',a,b,c⟩=>⟨v',a,b.gr hg,c⟩) ?_ (fun h hg hn=>by have:=iU h q c.num.2 ((hq.gr g2).gr hg) hL.2;rw[hn] at this;exact this) ?_
 ·exact unU (by simp (config:={decide:=true}) only [aS,if_true])
 rintro w2 kx H3 ⟨q',rfl,J3,iq⟩ D_ hn3 g3;subst hn3;have r1:H3.get N=some (.arr [.i .i64 c.face,.i .i64 c.col,.i .i64 c.line,.i .i64 c.kind,p,q,.o (.str c.aN),w] 69 0 0):=by rw[g3.get _ l2 zB2];exact r1
 have r2:H3.get (N+1)=some (.arr [.i .i64 0,.i .i64 0,.i .i64 0,.i .i64 0,.o .nilS,.o .nilS,.o (.str []),.o .nilS] 69 0 0):=by rw[g3.get _ n2 zB2];exact r2
 have n3:N+1<H3.nx:=zA0 n2 g3.nx;have l3:N<H3.nx:=by omega
 have S':=F2.gr g3;have g13:=(g1.gr g2).gr g3;have i12:=g1.nx;have i23:=g2.nx;have keep:∀ {u:AC} {l:List Gp},aO H3 u l→(∀ id∈(AV.one u).ids,H1.nx≤id)→aO (H3.mod N (.arr [.i .i64 c.face,.i .i64 c.col,.i .i64 c.line,.i .i64 c.kind,p',q',.o (.str c.aN),w] 69 0 0)) u l:=fun hu hi=>SlC.fr hu (X:=fun k=>k=N) ((Fr.refl _).mod _ (.inr rfl)) fun id h hh=>by have:=hi id h;omega
 simp (config:={decide:=true}) only [qB,Nat.reduceLT,Nat.reduceLeDiff,Nat.reduceAdd,Nat.reduceSub,qD,bK,bS,aS,t1,B0,KI vl Bb,oE,pJ,tZ,r1,l3]
 refine hK _ _ ?_;clear hK K;refine R1.gen (fun A4 H4=>Gr H H4∧N+1<H4.nx∧H4.get N=some (.arr [.i .i64 c.face,.i .i64 c.col,.i .i64 c.line,.i .i64 c.kind,p',q',.o (.str c.aN),w] 69 0 0)∧H4.get (N+1)=some (.arr [.i .i64 0,.i .i64 0,.i .i64 0,.i .i64 0,.o .nilS,.o .nilS,.o (.str []),.o .nilS] 69 0 0)∧aO H4 p' c.num.1∧aO H4 q' c.num.2∧slot A4.tm 1=.one ((.o (.ptr N 0 0 8)))∧slot A4.tm 2=.one ((.o (.ptr (N+1) 0 0 8)))∧A4.nt=18∧A4.dfr=[])
  ⟨g13.mod _ (.inl (by have:=hN.out;omega)),n3,ak rfl,by rw[aq (by omega)];exact r2,keep S' ip,keep J3 (fun i h=>by have:=iq i h;omega),zL⟩ ?_
 clear t1 t2 B0 C0 A1 keep r1 r2 g13;rintro A H4 ⟨g4,n4,r1,r2,hp4,Z9,t1,t2,B0,C0⟩;have l4:N<H4.nx:=by omega
 have hw4:SlP H4 w c.ws:=SlP.gr (by assumption) g4;have lw:=hw4.lt;have jp:∀ i∈(AV.one p').ids,H.nx≤i∧¬(i=N∨i=N+1):=fun i h=>by have:=ip i h;have:=hN.out;omega
 have jq:∀ i∈(AV.one q').ids,H.nx≤i∧¬(i=N∨i=N+1):=fun i h=>by have:=iq i h;have:=hN.out;omega
 clear ip iq S' F2 J3 i12 i23 g1 g2 g3 n1 n2 n3 l1 l2 l3 lp lq;replace jp:Hd _:=jp;replace jq:Hd _:=jq;refine zG (qA tyF GU) fun K hK=>?_;refine WE.con (Cv H4 w c.ws hw4 hW) fun w5 H5 g5 ⟨w',Y6,U1,iw⟩=>?_;subst Y6;have r1:=(g5.get _ l4 zB2).trans r1;have l4:=zA0 l4 g5.nx;have r2:=(g5.get _ n4 zB2).trans r2;have n4:=zA0 n4 g5.nx;have g45:=g4.gr g5;have hp5:=hp4.gr g5;have Y6:=Z9.gr g5;have i4:=g4.nx;have i5:=g5.nx;have jw:∀ i∈(AV.one w').ids,H.nx≤i∧¬(i=N∨i=N+1):=fun i h=>by have:=iw i h;have:=hN.out;omega
 have keep:Fr (fun k=>k=N∨k=N+1) H5 ((H5.mod N (.arr [.i .i64 c.face,.i .i64 c.col,.i .i64 c.line,.i .i64 c.kind,p',q',.o (.str c.aN),w'] 69 0 0)).mod (N+1) (.arr [.i .i64 c.face,.i .i64 c.col,.i .i64 c.line,.i .i64 c.kind,p',q',.o (.str c.aN),w'] 69 0 0)):=((Fr.refl _).mod _ (.inr (.inl rfl))).mod _ (.inr (.inr rfl));have kp:=SlC.fr hp5 keep fun i h=>(jp.out i h).2;have kq:=SlC.fr Y6 keep fun i h=>(jq.out i h).2;have kw:=SlC.fr U1 keep fun i h=>(jw i h).2;clear keep i4 i5 g5 hw4 hp4 Z9 lw U1 hp5 Y6;replace kp:Hd _:=kp;replace kq:Hd _:=kq;replace kw:Hd _:=kw;replace jw:Hd _:=jw;refine zK tyF ?_;exact ⟨_,_,eQ (id:=N+1) (g:=0) tf (.inr rfl) (by simp only[ai,C0];rfl) (by simp only[aa,Nat.reduceEqDiff,reduceIte,t2]) (by rw[ak rfl];exact bX (zA1 _) (zA1 _)) (zA1 _) rfl,(g45.mod _ (.inl (by have:=hN.out;omega))).mod _ (.inl (by have:=hN.out;omega)),fun _=>⟨_,rfl,rfl,⟨p',q',w',rfl,kp.out,kq.out,kw.out⟩,fun i hi=>by
  have M8:i∈jh [.i .i64 c.face,.i .i64 c.col,.i .i64 c.line,.i .i64 c.kind,p',q',.o (.str c.aN),w']:=hi;rw[oL] at M8;rcases List.mem_append.1 M8 with h|h
  ·exact (jp.out i h).1
  rcases List.mem_append.1 h with h|h
  ·exact (jq.out i h).1
  exact (jw.out i h).1⟩⟩
theorem Cw:al Tryz.prog 103=true:=by kernel_rfl
theorem JY.open {n:Nat} {c:Cs} {r:AV} {H:Hp} (h:JY n c r H):∃ p q w,r=.agg [.i .i64 c.face,.i .i64 c.col,.i .i64 c.line,.i .i64 c.kind,p,q,.o (.str c.aN),w]∧CsR H [.i .i64 c.face,.i .i64 c.col,.i .i64 c.line,.i .i64 c.kind,p,q,.o (.str c.aN),w] c∧∀ id∈jh [.i .i64 c.face,.i .i64 c.col,.i .i64 c.line,.i .i64 c.kind,p,q,.o (.str c.aN),w],n≤id:=by
 obtain ⟨c',h1,h2,h3,h4⟩:=h;obtain ⟨p,q,w,rfl,h5⟩:=h3;exact ⟨p,q,w,h1,⟨p,q,w,rfl,h5⟩,h4⟩
theorem bk.lg {α:Type} {R:Hp→List AC→α→Prop} (hlg:∀ H lg c x,R H c x→R ⟨H.t,H.nx,lg⟩ c x) {sz:Nat} {e:TypeId} {X:Nat→Prop} {H:Hp} {v:AC} {l:List α} {r:Option Nat} (h:bk R sz e X H v l r) (lg:List Nat):bk R sz e X ⟨H.t,H.nx,lg⟩ v l r where
 row:=h.row
 own:=let ⟨css,a,b⟩:=h.own;⟨css,a,b.mono fun c x ⟨h1,h2,h3⟩=>⟨h1,hlg _ _ _ _ h2,h3⟩⟩
theorem Re:∀ (H:Hp) (lg:List Nat) (c:List AC) (x:Cs),CsR H c x→CsR ⟨H.t,H.nx,lg⟩ c x:=fun _ _ _ _ h=>h
theorem gT (H:Hp) (n:List UInt8) (v:AC) (l:List Cs) (hv:ca H v l) (hB:TbB l):
  Con E2 53 [.one (.o (.str n)),.one v] H (fun _=>False) fun r H'=>∃ v' q,r=.agg [.o (.str n),v']∧bk CsR 8 69 (fun i=>i<H.nx) H' v' l q:=by
 refine Con.of rfl fun lg=>?_;have hv:ca ⟨H.t,H.nx,lg⟩ v l:=hv;have e0:H.nx=(⟨H.t,H.nx,lg⟩:Hp).nx:=rfl;rw[e0];clear e0;generalize (⟨H.t,H.nx,lg⟩:Hp)=H at hv ⊢;refine C1.body (E:=E2) (nt:=25) (res:=[.cell 4 26]) Tryz.func53 rfl rfl rfl rfl rfl fun tm A0=>?_;have h0:=A0 0 _ rfl;have h1:=A0 1 _ rfl;clear A0;have hl:l.length*120≤140737488355328:=hB.c;obtain ⟨z,hz,M1⟩:=Sr;replace hz:Hd _:=hz;replace M1:Hd _:=M1;refine zW tyF ?_;refine R1.gen (fun A1 H1=>Gr H H1∧H.nx+2=H1.nx∧H1.get H.nx=some (.arr [.o (.str []),.o .nilS] 26 0 0)∧H1.get (H.nx+1)=some (.arr [.o (.str n),.o .nilS] 26 0 0)∧slot A1.tm 1=.one (v)∧slot A1.tm 4=.one ((.o (.ptr H.nx 0 0 2)))∧slot A1.tm 5=.one ((.o (.ptr (H.nx+1) 0 0 2)))∧A1.nt=25∧A1.dfr=[])
  ⟨(((Fr.refl _).new _).new _).mod _ (.inl (Nat.le_succ _)),rfl,by rw[aq (by show H.nx≠H.nx+1;omega),aM (by show H.nx<H.nx+1;omega)];exact az rfl,ak rfl,zL⟩ ?_
 clear h0 h1 tm;rintro A1 H1 ⟨g1,n1,r1,r2,t1,t4,t5,B0,C0⟩;obtain ⟨N,hN⟩:∃ N,N=H.nx:=⟨_,rfl⟩;rw[←hN] at n1 r1 r2 t4 t5;replace hN:Hd _:=hN;have Y1:=hv.gr g1;have lv:=Y1.lt;have ll:=Y1.len;have n0:N+2≤H1.nx:=Nat.le_of_eq n1;clear n1;refine zW tyF ?_;refine R1.dp fun K k1 k2 k3 k4=>?_;refine R1.loop (fun k A H2=>∃ (i:Nat) (v':AC) (r:Option Nat),k=l.length - i∧i≤l.length∧Gr H H2∧N+2≤H2.nx∧H2.get N=some (.arr [.o (.str []),.o .nilS] 26 0 0)∧H2.get (N+1)=some (.arr [.o (.str n),v'] 26 0 0)∧bk CsR 8 69 (fun i=>i<N+2) H2 v' (l.take i) r ∧
   slot A.tm 4=.one ((.o (.ptr N 0 0 2)))∧slot A.tm 5=.one ((.o (.ptr (N+1) 0 0 2)))∧slot A.tm 10=.one (v)∧slot A.tm 11=.one (.i .i64 (l.length:Int))∧slot A.tm 12=.one (.i .i64 (i:Int))∧A.nt=25∧A.dfr=[]) ?_ l.length
  ⟨0,.o .nilS,none,rfl,Nat.zero_le _,g1,n0,r1,r2,bk.nil,zL⟩
 clear t1 t4 t5 B0 C0 A1 r1 r2 k3 lv ll Y1 g1 n0 H1;rintro k A H2 ⟨i,v',r,rfl,hi,g2,n2,r1,r2,ho,t4,t5,t10,t11,t12,B0,C0⟩;have N2:=hv.gr g2;have m1:N<H2.nx:=by omega
 have m2:N+1<H2.nx:=by omega
 refine zW tyF ?_;refine zI tyF (fun hc=>?_) (fun hc=>?_)
 ·have D0:i<l.length:=by omega
  have ex:=zB4 D0;have O0:=zC1 D0;have Z0:=zC2 D0;have G0:l[i]∈l:=List.getElem_mem D0;generalize l[i]=x at ex O0 Z0 G0;have Q1:=zC0 i (by omega);have hlen:(l.take i).length=i:=by rw[List.length_take];omega
  obtain ⟨id,g,off,cells,rfl,hid,R0,J0⟩:=N2.open (by omega);obtain ⟨p,q,w,hx⟩:=J0 i x ex;have y1:=hx.all;have y2:=hx.le;have hp:=hx.of1;have hq:=hx.of2;have hw:=hx.of3;have hBn:=hB.n x G0;have hBw:=hB.w x G0;clear hx J0 O0 ex G0;replace Z0:Hd _:=Z0;replace hlen:Hd _:=hlen;refine zW tyF ?_;refine R1.dp fun K2 p1 p2 p3 p4=>?_;refine zG (qA tyF (ixC D0)) fun K3 T4=>?_;refine T4.out _ _ ?_;refine R1.gen (fun A4 H4=>Gr H2 H4∧H2.nx<H4.nx∧H4.get H2.nx=some (.arr [.i .i64 x.face,.i .i64 x.col,.i .i64 x.line,.i .i64 x.kind,p,q,.o (.str x.aN),w] 69 0 0)∧slot A4.tm 4=.one ((.o (.ptr N 0 0 2)))∧slot A4.tm 5=.one ((.o (.ptr (N+1) 0 0 2)))∧slot A4.tm 7=.one ((.o (.ptr H2.nx 0 0 8)))∧slot A4.tm 10=.one ((.o (.sl id g off l.length 8)))∧slot A4.tm 11=.one (.i .i64 (l.length:Int))∧slot A4.tm 12=.one (.i .i64 (i:Int))∧A4.nt=25∧A4.dfr=[])
   ⟨((Fr.refl _).new _).mod _ (.inl (zA1 _)),zA6 _,ak rfl,zL⟩ ?_
  clear t4 t5 t10 t11 t12 B0 C0 A y1 y2 T4 K3 R0 hid;rintro A H4 ⟨g4,mM,rM,t4,t5,t7,t10,t11,t12,B0,C0⟩;obtain ⟨M,hM⟩:∃ M,M=H2.nx:=⟨_,rfl⟩;rw[←hM] at mM rM t7;have nM:N+2≤M:=by omega
  clear hM;have r1:=(g4.get _ m1 zB2).trans r1;have m1:=zA0 m1 g4.nx;have r2:=(g4.get _ m2 zB2).trans r2;have m2:=zA0 m2 g4.nx;have ho4:=ho.gr cK cM g4;have g24:=g2.gr g4;have lo:=ho4.lt;clear ho g2 N2;refine zH (qA tyF Cw) fun K3 T4=>?_;refine WE.Se (Bk H4 x p q w (hp.gr g4) (hq.gr g4) (hw.gr g4) hBn hBw) fun w5 H5 g5 W2=>?_;obtain ⟨p',q',w',rfl,E3,u6⟩:=W2.open;have r1:=(g5.get _ m1 zB2).trans r1;have m1:=zA0 m1 g5.nx;have r2:=(g5.get _ m2 zB2).trans r2;have m2:=zA0 m2 g5.nx;have z':=ho4.gr cK cM g5;have g25:=g24.gr g5;have E4:∀ id∈jh [.i .i64 x.face,.i .i64 x.col,.i .i64 x.line,.i .i64 x.kind,p',q',.o (.str x.aN),w'],¬id<N+2∧some id≠r:=fun id hid=>by
   have h1:=u6 id hid;refine ⟨by omega,fun e=>?_⟩;have:=(ho4.row id e.symm).2;omega
  obtain ⟨M4,v7,H7,r7,L1,ho7,m6,hr7⟩:=z'.push cK cM gy Sy hz.out M1.out (by decide) (fun i h=>by omega) rfl E3 E4 (by have:=hlen.out;omega);have r17:=(m6.get _ m1 fun e=>(z'.row _ e).1 (by omega)).trans r1;have r27:=(m6.get _ m2 fun e=>(z'.row _ e).1 (by omega)).trans r2;have m17:=zA0 m1 m6.nx;have m27:=zA0 m2 m6.nx;have g27:Gr H H7:=g25.then m6 fun q hq=>.inl (by have:=(z'.row q hq).1;have:=hN.out;omega);have l8:=ho7.fr cK cM (Y:=fun i=>i=N+1) (H':=H7.mod (N+1) (.arr [.o (.str n),v7] 26 0 0)) ((Fr.refl _).mod _ (.inr rfl)) fun i h=>.inl (by omega);rw[←Z0.out] at l8;have nx7:N+2≤H7.nx:=by omega
  have gm:=g27.mod (i:=N+1) (.arr [.o (.str n),v7] 26 0 0) (.inl (by have:=hN.out;omega));clear ho4 z' ho7 E4 u6 E3 W2 hp hq hw g24 g25 g5 g4 m6 hr7 r1 r2 g27 lo;replace l8:Hd _:=l8;replace gm:Hd _:=gm;refine zS (qA tyF jQ) ?_;refine ⟨M4,?_⟩;refine zK tyF ?_;refine p1.out _ _ ?_;refine zW tyF ?_;exact ⟨l.length - (i+1),by omega,i+1,v7,some r7,rfl,D0,gm.out,nx7,(aq (by omega)).trans r17,ak rfl,l8.out,zL⟩
 have S1:i=l.length:=by omega
 subst S1;rw[List.take_length] at ho;have G8:=(ho.fr cK cM (Y:=fun i=>i=N) (H':=H2.mod N (.arr [.o (.str n),v'] 26 0 0)) ((Fr.refl _).mod _ (.inr rfl)) fun i h=>.inl (by omega)).less (X':=fun i=>i<H.nx) fun i h=>by have:=hN.out;omega
 have gm:=g2.mod (i:=N) (.arr [.o (.str n),v'] 26 0 0) (.inl (by have:=hN.out;omega));have lo:=ho.lt;clear ho N2;replace G8:Hd _:=G8;replace gm:Hd _:=gm;refine zW tyF ?_;refine k2.out _ _ ?_;refine zW tyF ?_;exact ⟨_,_,eQ (id:=N) (g:=0) jY (.inr rfl) (by simp only[ai,C0];rfl) (by simp only[aa,Nat.reduceEqDiff,reduceIte,t4]) (by rw[ak rfl];exact bX (zA1 _) (zA1 _)) (zA1 _) rfl,gm.out,fun lg=>⟨v',r,rfl,bk.lg Re G8.out lg⟩⟩
theorem iR:al Tryz.prog 53=true:=by kernel_rfl
def Ap (t:Tb) (n:Int):Int:=if kE t≠0 then kE t else if n<0∨(t.2.length:Int)<n then 8 else 0
def slN (H:Hp) (alt:ad) (x y:AV):ad:=
 match x,y with
 | .one (.o .nilS),.one (.i .i64 (.ofNat 0))=>.val (.one (.o .nilS)) H
 | _,_=>alt
theorem TV {H:Hp} {alt:ad}:slN H alt (.one (.o .nilS)) (.one (.i .i64 0))=.val (.one (.o .nilS)) H:=rfl
theorem sa {H:Hp} {sz:Nat} {lo hi:Option AV} {alt:ad}:cU H sz (.one (.o .nilS)) lo hi alt=alt:=rfl
theorem yU {tm:PT AV} {H:Hp} {d:Option Tmp} {x y:Operand} {ty:TypeId} {pos:String} {af:Array Edge} {g:Option (Nat×Bool)}:
  ax Tryz.prog tm H ⟨d,.slice 24 x none (some y) none,ty,pos,af,g⟩=slN H (cS Tryz.prog tm H ⟨d,.slice 24 x none (some y) none,ty,pos,af,g⟩) (ev tm x) (ev tm y):=by
 unfold slN;split
 ·rename_i hx hy
  have vx:(ev tm x).val?=some (.slice none 0 0):=by rw[hx];rfl
  have vy:(ev tm y).val?=some (.int .i64 0):=by rw[hy];rfl
  have dx:bj (ev tm x)=.slice none 0 0:=by unfold bj;rw[vx]
  have dy:bj (ev tm y)=.int .i64 0:=by unfold bj;rw[vy]
  unfold ax;have e1:((⟨d,.slice 24 x none (some y) none,ty,pos,af,g⟩:Oper).op.operands.toList.all fun x=>(ev tm x).val?.isSome)=true:=by
   show ([x,y].all fun x=>(ev tm x).val?.isSome)=true;simp only[List.all_cons,List.all_nil,vx,vy];rfl
  rw[e1];have e2:aB Tryz.prog (execOp (fun x=>bj (ev tm x)) ⟨d,.slice 24 x none (some y) none,ty,pos,af,g⟩)=some (.value (.slice none 0 0)):=by
   show aB Tryz.prog (Sem.bind (Instr.sliceAt 24 (bj (ev tm x)) none (some (bj (ev tm y))) none) fun v=>Sem.pure (Next.value v))=_;rw[dx,dy];kernel_rfl
  rw[e2];rfl
 rfl
theorem zz {tm:PT AV} {H:Hp} {d:Option Tmp} {x y:Operand} {ty:TypeId} {pos:String} {af:Array Edge} {g:Option (Nat×Bool)}:
  ax Tryz.prog tm H ⟨d,.slice 24 x (some y) none none,ty,pos,af,g⟩=slN H (cS Tryz.prog tm H ⟨d,.slice 24 x (some y) none none,ty,pos,af,g⟩) (ev tm x) (ev tm y):=by
 unfold slN;split
 ·rename_i hx hy
  have vx:(ev tm x).val?=some (.slice none 0 0):=by rw[hx];rfl
  have vy:(ev tm y).val?=some (.int .i64 0):=by rw[hy];rfl
  have dx:bj (ev tm x)=.slice none 0 0:=by unfold bj;rw[vx]
  have dy:bj (ev tm y)=.int .i64 0:=by unfold bj;rw[vy]
  unfold ax;have e1:((⟨d,.slice 24 x (some y) none none,ty,pos,af,g⟩:Oper).op.operands.toList.all fun x=>(ev tm x).val?.isSome)=true:=by
   show ([x,y].all fun x=>(ev tm x).val?.isSome)=true;simp only[List.all_cons,List.all_nil,vx,vy];rfl
  rw[e1];have e2:aB Tryz.prog (execOp (fun x=>bj (ev tm x)) ⟨d,.slice 24 x (some y) none none,ty,pos,af,g⟩)=some (.value (.slice none 0 0)):=by
   show aB Tryz.prog (Sem.bind (Instr.sliceAt 24 (bj (ev tm x)) (some (bj (ev tm y))) none none) fun v=>Sem.pure (Next.value v))=_;rw[dx,dy];kernel_rfl
  rw[e2];rfl
 rfl
theorem Pd {α β:Type} {R:β→α→Prop}:∀ (n:Nat) {cs:List β} {xs:List α},Al R cs xs→Al R (cs.drop n) (xs.drop n)
 | 0,_,_,h=>h
 | n+1,[],[],_=>trivial
 | n+1,[],_::_,h=>h.elim
 | n+1,_::_,[],h=>h.elim
 | n+1,_::_,_::_,h=>Pd n h.2
theorem vJ {sz:Nat}:∀ (n:Nat) {css:List (List AC)},(∀ c∈css,c.length=sz)→(css.drop n).flatMap id=(css.flatMap id).drop (n*sz)
 | 0,css,_=>by rw[Nat.zero_mul];rfl
 | n+1,[],_=>by simp
 | n+1,c::css,h=>by
  have hc:c.length=sz:=h c (List.mem_cons_self ..);rw[List.drop_succ_cons,vJ n fun x hx=>h x (List.mem_cons_of_mem _ hx),List.flatMap_cons,Nat.succ_mul];show _=(c++css.flatMap id).drop (n*sz+sz);rw[List.drop_append,hc,List.drop_of_length_le (by omega:c.length≤n*sz+sz),List.nil_append,Nat.add_sub_cancel]
theorem ca.Ur {H:Hp} {v:AC} {l:List Cs} (h:ca H v l):(v=.o .nilS∧l=[])∨∃ id g off,v=.o (.sl id g off l.length 8)∧id<H.nx:=by
 obtain ⟨css,h1,h2⟩:=h;rcases h1.2 with ⟨e,h0⟩|⟨id,g,off,e,hid,hr⟩
 ·exact .inl ⟨e,List.eq_nil_of_length_eq_zero h0⟩
 exact .inr ⟨id,g,off,e,hid⟩
theorem SlR.drop {α:Type} {R:Hp→List AC→α→Prop} {sz:Nat} {H:Hp} {id g off:Nat} {l:List α} (h:SlR R sz H (.o (.sl id g off l.length sz)) l) {n:Nat} (hn:n≤l.length):SlR R sz H (.o (.sl id g (off+n*sz) (l.length - n) sz)) (l.drop n):=by
 obtain ⟨css,h1,h2⟩:=h;have hl:(l.drop n).length=l.length - n:=List.length_drop;have V0:css.length=l.length:=h2.len;have hcn:(css.drop n).length=l.length - n:=by rw[List.length_drop];omega
 have hm:n*sz+(l.length - n)*sz=l.length*sz:=by rw[←Nat.add_mul];congr 1;omega
 have F':=jG h2.lens;refine ⟨css.drop n,⟨?_,?_⟩,Pd n h2⟩
 ·rw[jG fun c hc=>h2.lens c (List.mem_of_mem_drop hc),hcn,hl]
 rcases h1.2 with ⟨e,h0⟩|⟨id',g',off',e,hid,hr⟩
 ·cases e
 cases e
 right;refine ⟨id,g,off+n*sz,by rw[hl],hid,?_⟩;rw[hl,vJ n h2.lens];have:=hr.part (n*sz) ((l.length - n)*sz) (by omega);rwa [List.take_of_length_le (by rw[List.length_drop,F',V0];omega)] at this
theorem Rv (H:Hp) (nm:List UInt8) (v:AC) (l:List Cs) (n:Int) (hv:ca H v l) (hB:TbB l):
  Con E2 19 [.agg [.o (.str nm),v],.one (.i .i64 n)] H (fun _=>False) fun r H'=>∃ va vb,r=.tup [(true,[.o (.str (if Ap (nm,l) n=0 then nm else [])),va]),(true,[.o (.str (if Ap (nm,l) n=0 then nm else [])),vb]),(false,[.i .i64 (Ap (nm,l) n)])] ∧
   (Ap (nm,l) n=0→∃ q r',bk CsR 8 69 (fun i=>i<H.nx) H' va (l.take n.toNat) q∧bk CsR 8 69 (fun i=>i<H.nx) H' vb (l.drop n.toNat) r')∧(Ap (nm,l) n≠0→va=.o .nilS∧vb=.o .nilS):=by
 generalize N0:Ap (nm,l) n=e0;refine Con.of rfl fun lg=>?_;have hv:ca ⟨H.t,H.nx,lg⟩ v l:=hv;have e0:H.nx=(⟨H.t,H.nx,lg⟩:Hp).nx:=rfl;rw[e0];clear e0;generalize (⟨H.t,H.nx,lg⟩:Hp)=H at hv ⊢;refine C1.body (E:=E2) (nt:=40) (res:=[.cell 4 26,.cell 5 26,.tmp 6]) Tryz.func19 rfl rfl rfl rfl rfl fun tm A0=>?_;have h0:=A0 0 _ rfl;have h1:=A0 1 _ rfl;clear A0;replace N0:Hd _:=N0;have hl:l.length*120≤140737488355328:=hB.c;have lv:=hv.lt;refine zG tyF fun K hK=>?_;refine hK.out _ _ ?_;refine R1.gen (fun A1 H1=>Gr H H1∧H.nx+2<H1.nx∧H1.get H.nx=some (.arr [.o (.str nm),v] 26 0 0)∧H1.get (H.nx+1)=some (.arr [.o (.str []),.o .nilS] 26 0 0)∧H1.get (H.nx+2)=some (.arr [.o (.str []),.o .nilS] 26 0 0)∧slot A1.tm 1=.one ((.i .i64 n))∧slot A1.tm 2=.one ((.o (.ptr H.nx 0 0 2)))∧slot A1.tm 4=.one ((.o (.ptr (H.nx+1) 0 0 2)))∧slot A1.tm 5=.one ((.o (.ptr (H.nx+2) 0 0 2)))∧slot A1.tm 6=.one ((.i .i64 0))∧A1.nt=40∧A1.dfr=[])
  ⟨(((Fr.refl _).new _).new _).new _,by show H.nx+2<H.nx+1+1+1;omega,by rw[aM (by show H.nx<H.nx+1+1;omega),aM (by show H.nx<H.nx+1;omega)];exact az rfl,by rw[aM (by show H.nx+1<H.nx+1+1;omega)];exact az rfl,az rfl,zL⟩ ?_
 clear h0 h1 tm hK K lv;rintro A1 H1 ⟨g1,n2,r0,r1,r2,t1,t2,t4,t5,t6,B0,C0⟩;obtain ⟨N,hN⟩:∃ N,N=H.nx:=⟨_,rfl⟩;rw[←hN] at n2 r0 r1 r2 t2 t4 t5;replace hN:Hd _:=hN;have m0:N<H1.nx:=by omega
 have m1:N+1<H1.nx:=by omega
 have Y1:=hv.gr g1;have lv:=Y1.lt;refine zG (qA tyF uH) fun K hK=>?_;refine WE.con (rI H1 nm v l Y1 hB) fun w2 H2 g2 C4=>?_;subst C4;have r0:=(g2.get _ m0 zB2).trans r0;have m0:=zA0 m0 g2.nx;have r1:=(g2.get _ m1 zB2).trans r1;have m1:=zA0 m1 g2.nx;have r2:=(g2.get _ n2 zB2).trans r2;have n2:=zA0 n2 g2.nx;have N2:=Y1.gr g2;have g12:=g1.gr g2;clear g1 g2 Y1 lv;have lv:=N2.lt;have ll:=N2.len;have he:=N0.out;unfold Ap at he;clear N0;have fin:∀ (sn:List UInt8) (va vb:AC) (A:ab) (H9:Hp),slot A.tm 4=.one (.o (.ptr (N+1) 0 0 2))→slot A.tm 5=.one (.o (.ptr (N+2) 0 0 2))→slot A.tm 6=.one (.i .i64 e0)→closeAll H9 A.dfr=some H9→H9.get (N+1)=some (.arr [.o (.str sn),va] 26 0 0)→H9.get (N+2)=some (.arr [.o (.str sn),vb] 26 0 0)→Gr H H9→sn=(if e0=0 then nm else []) →
   (e0=0→∃ q r',bk CsR 8 69 (fun i=>i<H.nx) H9 va (l.take n.toNat) q∧bk CsR 8 69 (fun i=>i<H.nx) H9 vb (l.drop n.toNat) r')→(e0≠0→va=.o .nilS∧vb=.o .nilS) →
   ∃ w H4,aC E2 [.cell 4 26,.cell 5 26,.tmp 6] (.ret,A,H9)=.ok [(w,H4)]∧Gr H H4∧∀ lg:List Nat,∃ va vb,w=.tup [(true,[.o (.str (if e0=0 then nm else [])),va]),(true,[.o (.str (if e0=0 then nm else [])),vb]),(false,[.i .i64 e0])] ∧
    (e0=0→∃ q r',bk CsR 8 69 (fun i=>i<H.nx) ⟨H4.t,H4.nx,lg⟩ va (l.take n.toNat) q∧bk CsR 8 69 (fun i=>i<H.nx) ⟨H4.t,H4.nx,lg⟩ vb (l.drop n.toNat) r')∧(e0≠0→va=.o .nilS∧vb=.o .nilS):=fun sn va vb A H9 s4 s5 s6 hd r1 r2 hg hsn ho hz=>
  ⟨_,H9,cE (.inr rfl) hd (jD jY s4 (by rw[r1];exact yK) (zA1 _) rfl (jD jY s5 (by rw[r2];exact yK) (zA1 _) rfl (qC s6 tl))),hg,fun lg=>⟨va,vb,by rw[←hsn];rfl,fun h=>by
   obtain ⟨q,r',a,b⟩:=ho h;exact ⟨q,r',bk.lg Re a lg,bk.lg Re b lg⟩,hz⟩⟩
 by_cases q1:kE (nm,l)=0
 case neg=>
  rw[zB0 q1] at he;have e1:(e0==0)=false:=zB5 (by rw[←he];exact q1);rw[he];have g9:=(g12.mod (i:=N+1) (.arr [.o (.str []),.o .nilS] 26 0 0) (.inl (by have:=hN.out;omega))).mod (i:=N+2) (.arr [.o (.str []),.o .nilS] 26 0 0) (.inl (by have:=hN.out;omega));have Y0:e0≠0:=by rw[←he];exact q1
  replace Y0:Hd _:=Y0;replace g9:Hd _:=g9;clear q1 he;refine zE tyF ?_;refine zR tyF ?_;refine zX tyF ?_;repeat refine R1.au ?_
  repeat refine R1.au ?_
  (first|refine R1.lU (ms:=[0,0,0,1,11,31]) (by kernel_rfl) (by kernel_rfl) fun K hK=>?_|refine R1.e_drw (ms:=[0,0,0,1,11,31]) (by kernel_rfl) (by kernel_rfl) fun K hK=>?_)
  simp (config:={decide:=true}) only [qB,ay,Nat.reduceLT,Nat.reduceAdd,qD,bK,bS,aS,ae,t4,t5,B0,r1,m1,r2,n2,jY,nQ]
  refine hK _ _ ?_;clear hK K;refine qV ?_;exact fin [] (.o .nilS) (.o .nilS) _ _ (by simp only[aa,Nat.reduceEqDiff,reduceIte,t4]) (by simp only[aa,Nat.reduceEqDiff,reduceIte,t5]) qp (by simp only[ai,C0];rfl) ((aq (by omega)).trans (ak rfl)) (ak rfl) g9.out (zB1 Y0.out).symm (fun h=>absurd h Y0.out) fun _=>⟨rfl,rfl⟩
 rw[zB1 (fun h=>h q1)] at he;rw[q1];by_cases q2:n<0∨(l.length:Int)<n
 ·rw[zB0 (by exact q2)] at he;have g9:=(g12.mod (i:=N+1) (.arr [.o (.str []),.o .nilS] 26 0 0) (.inl (by have:=hN.out;omega))).mod (i:=N+2) (.arr [.o (.str []),.o .nilS] 26 0 0) (.inl (by have:=hN.out;omega));subst he;replace g9:Hd _:=g9;clear q1;by_cases q3:n<0
  ·clear q2;refine zE tyF ?_;refine zR tyF ?_;refine zX tyF ?_;refine R1.aY ?_;refine zR tyF ?_;refine zX tyF ?_;repeat refine R1.au ?_
   repeat refine R1.au ?_
   (first|refine R1.lU (ms:=[0,0,1,7,15]) (by kernel_rfl) (by kernel_rfl) fun K hK=>?_|refine R1.e_drw (ms:=[0,0,1,7,15]) (by kernel_rfl) (by kernel_rfl) fun K hK=>?_)
   simp (config:={decide:=true}) only [qB,ay,Nat.reduceLT,Nat.reduceAdd,qD,bK,bS,aS,ae,t4,t5,B0,r1,m1,r2,n2,jY,nQ]
   refine hK _ _ ?_;clear hK K;refine qV ?_;exact fin [] (.o .nilS) (.o .nilS) _ _ (by simp only[aa,Nat.reduceEqDiff,reduceIte,t4]) (by simp only[aa,Nat.reduceEqDiff,reduceIte,t5]) qp (by simp only[ai,C0];rfl) ((aq (by omega)).trans (ak rfl)) (ak rfl) g9.out rfl (fun h=>absurd h (by decide)) fun _=>⟨rfl,rfl⟩
  have q4:(l.length:Int)<n:=q2.resolve_left q3;clear q2;refine zE tyF ?_;refine zR tyF ?_;refine zX tyF ?_;refine R1.aY ?_;refine zR tyF ?_;refine zX tyF ?_;repeat refine R1.au ?_
  repeat refine R1.au ?_
  (first|refine R1.lU (ms:=[0,0,1,7,15]) (by kernel_rfl) (by kernel_rfl) fun K hK=>?_|refine R1.e_drw (ms:=[0,0,1,7,15]) (by kernel_rfl) (by kernel_rfl) fun K hK=>?_)
  simp (config:={decide:=true}) only [qB,ay,Nat.reduceLT,Nat.reduceAdd,qD,bK,bS,aS,ae,t4,t5,B0,r1,m1,r2,n2,jY,nQ]
  refine hK _ _ ?_;clear hK K;refine qV ?_;exact fin [] (.o .nilS) (.o .nilS) _ _ (by simp only[aa,Nat.reduceEqDiff,reduceIte,t4]) (by simp only[aa,Nat.reduceEqDiff,reduceIte,t5]) qp (by simp only[ai,C0];rfl) ((aq (by omega)).trans (ak rfl)) (ak rfl) g9.out rfl (fun h=>absurd h (by decide)) fun _=>⟨rfl,rfl⟩
 rw[zB1 (by exact q2)] at he;subst he;have q3:¬n<0:=fun h=>q2 (.inl h);have q4:¬(l.length:Int)<n:=fun h=>q2 (.inr h);obtain ⟨k,hk⟩:∃ k:Nat,n=(k:Int):=⟨n.toNat,by omega⟩;subst hk;have S5:k≤l.length:=by omega
 rw[Int.toNat_natCast] at fin;clear q1 q2;refine zK tyF ?_;rcases N2.Ur with ⟨rfl,hz⟩|hz
 ·have hv0:ca H2 (.o .nilS) (l.take k):=by rw[hz,List.take_nil];rw[hz] at N2;exact N2
  have Y1:ca H2 (.o .nilS) (l.drop k):=by rw[hz,List.drop_nil];rw[hz] at N2;exact N2
  have C_:l.length=0:=by rw[hz];rfl
  have T':k=0:=by omega
  subst T';repeat refine R1.au ?_
  repeat refine R1.au ?_
  (first|refine R1.lU (ms:=[0,1,0,4,0,28,63,0,128,0,512,0,3584,8191,16383,32767,65535]) (by kernel_rfl) (by kernel_rfl) fun K hK=>?_|refine R1.e_drw (ms:=[0,1,0,4,0,28,63,0,128,0,512,0,3584,8191,16383,32767,65535]) (by kernel_rfl) (by kernel_rfl) fun K hK=>?_)
  simp (config:={decide:=true}) only [qB,ay,Nat.reduceLT,Nat.reduceLeDiff,Nat.reduceAdd,Nat.reduceSub,qD,bK,aS,ae,t1,t2,B0,r0,m0,jr,ic,aT,ij,gy,iR,TV,sa,@yU,@zz]
  refine gX (fun r H'=>∃ v' q,r=.agg [.o (.str nm),v']∧bk CsR 8 69 (fun i=>i<H2.nx) H' v' (l.take 0) q) (fun v h1 h2 hg ⟨v',q,a,b⟩=>⟨v',q,a,b.gr cK cM hg⟩) ?_ (fun h hg hn=>by have:=gT h nm (.o .nilS) (l.take 0) (hv0.gr hg) (hB.take 0);rw[hn] at this;exact this) ?_
  ·exact unU (by simp (config:={decide:=true}) only [aS,if_true])
  rintro w3 kx H3 ⟨va,q,rfl,z_⟩ D_ hn3 g3;subst hn3;have r0:=(g3.get _ m0 zB2).trans r0;have m0:=zA0 m0 g3.nx;have r1:=(g3.get _ m1 zB2).trans r1;have m1:=zA0 m1 g3.nx;have r2:=(g3.get _ n2 zB2).trans r2;have n2:=zA0 n2 g3.nx;have m03:=m0;have i':=Y1.gr g3;have m02:N<H2.nx:=by assumption
  simp (config:={decide:=true}) only [qB,Nat.reduceLT,Nat.reduceLeDiff,Nat.reduceAdd,Nat.reduceSub,qD,bK,aS,t1,t2,B0,r0,m0,m02,TV,sa]
  refine gX (fun r H'=>∃ v' q,r=.agg [.o (.str nm),v']∧bk CsR 8 69 (fun i=>i<H3.nx) H' v' (l.drop 0) q) (fun v h1 h2 hg ⟨v',q,a,b⟩=>⟨v',q,a,b.gr cK cM hg⟩) ?_ (fun h hg hn=>by have:=gT h nm (.o .nilS) (l.drop 0) (i'.gr hg) (hB.drop 0);rw[hn] at this;exact this) ?_
  ·exact unU (by simp (config:={decide:=true}) only [aS,if_true])
  rintro w4 kx H4 ⟨vb,q',rfl,L4⟩ D_ hn4 g4;subst hn4;have m13:=m1;have m23:=n2;have r1:=(g4.get _ m1 zB2).trans r1;have m1:=zA0 m1 g4.nx;have r2:=(g4.get _ n2 zB2).trans r2;have n2:=zA0 n2 g4.nx;have hoa4:=z_.gr cK cM g4;have n23:=g3.nx;have b2:N+2<H2.nx:=by assumption
  have keep:Fr (fun j=>j=N+1∨j=N+2) H4 ((H4.mod (N+1) (.arr [.o (.str nm),va] 26 0 0)).mod (N+2) (.arr [.o (.str nm),vb] 26 0 0)):=((Fr.refl _).mod _ (.inr (.inl rfl))).mod _ (.inr (.inr rfl));have hN1:H.nx≤N+1:=by have:=hN.out;omega
  have hN2:H.nx≤N+2:=by omega
  have hle:H.nx≤H2.nx:=by omega
  have ka:=(hoa4.fr cK cM keep fun j hj=>.inl (by omega)).less (X':=fun j=>j<H.nx) fun j hj=>by omega
  have kb:=(L4.fr cK cM keep fun j hj=>.inl (by omega)).less (X':=fun j=>j<H.nx) fun j hj=>by omega
  have g9:=(((g12.gr g3).gr g4).mod (i:=N+1) (.arr [.o (.str nm),va] 26 0 0) (.inl hN1)).mod (i:=N+2) (.arr [.o (.str nm),vb] 26 0 0) (.inl hN2);simp (config:={decide:=true}) only [qB,Nat.reduceLT,Nat.reduceAdd,qD,bK,bS,aS,t4,t5,B0,r1,m1,r2,n2,nQ]
  refine hK _ _ ?_;clear hK K;refine qV ?_;exact fin nm va vb _ _ (by simp only[aa,Nat.reduceEqDiff,reduceIte,t4]) (by simp only[aa,Nat.reduceEqDiff,reduceIte,t5]) qp (by simp only[ai,C0];rfl) ((aq (by omega)).trans (ak rfl)) (ak rfl) g9 rfl (fun _=>⟨q,q',ka,kb⟩) fun h=>absurd rfl h
 obtain ⟨id,g,off,rfl,hid⟩:=hz;have F8:ca H2 (.o (.sl id g off k 8)) (l.take k):=SlR.take N2 S5;have hpd:ca H2 (.o (.sl id g (off+k*8) (l.length - k) 8)) (l.drop k):=SlR.drop N2 S5;repeat refine R1.au ?_
 repeat refine R1.au ?_
 (first|refine R1.lU (ms:=[0,1,0,4,0,28,63,0,128,0,512,0,3584,8191,16383,32767,65535]) (by kernel_rfl) (by kernel_rfl) fun K hK=>?_|refine R1.e_drw (ms:=[0,1,0,4,0,28,63,0,128,0,512,0,3584,8191,16383,32767,65535]) (by kernel_rfl) (by kernel_rfl) fun K hK=>?_)
 simp (config:={decide:=true}) only [qB,ay,Nat.reduceLT,Nat.reduceLeDiff,Nat.reduceAdd,Nat.reduceSub,qD,bK,aS,ae,t1,t2,B0,r0,m0,jr,ic,aT,ij,gy,iR,slH S5]
 refine gX (fun r H'=>∃ v' q,r=.agg [.o (.str nm),v']∧bk CsR 8 69 (fun i=>i<H2.nx) H' v' (l.take k) q) (fun v h1 h2 hg ⟨v',q,a,b⟩=>⟨v',q,a,b.gr cK cM hg⟩) ?_ (fun h hg hn=>by have:=gT h nm (.o (.sl id g off k 8)) (l.take k) (F8.gr hg) (hB.take k);rw[hn] at this;exact this) ?_
 ·exact unU (by simp (config:={decide:=true}) only [aS,if_true])
 rintro w3 kx H3 ⟨va,q,rfl,z_⟩ D_ hn3 g3;subst hn3;have r0:=(g3.get _ m0 zB2).trans r0;have m0:=zA0 m0 g3.nx;have r1:=(g3.get _ m1 zB2).trans r1;have m1:=zA0 m1 g3.nx;have r2:=(g3.get _ n2 zB2).trans r2;have n2:=zA0 n2 g3.nx;have m03:=m0;have i':=hpd.gr g3;have m02:N<H2.nx:=by assumption
 simp (config:={decide:=true}) only [qB,Nat.reduceLT,Nat.reduceLeDiff,Nat.reduceAdd,Nat.reduceSub,qD,bK,aS,t1,t2,B0,r0,m0,m02,slL S5]
 refine gX (fun r H'=>∃ v' q,r=.agg [.o (.str nm),v']∧bk CsR 8 69 (fun i=>i<H3.nx) H' v' (l.drop k) q) (fun v h1 h2 hg ⟨v',q,a,b⟩=>⟨v',q,a,b.gr cK cM hg⟩) ?_ (fun h hg hn=>by have:=gT h nm (.o (.sl id g (off+k*8) (l.length - k) 8)) (l.drop k) (i'.gr hg) (hB.drop k);rw[hn] at this;exact this) ?_
 ·exact unU (by simp (config:={decide:=true}) only [aS,if_true])
 rintro w4 kx H4 ⟨vb,q',rfl,L4⟩ D_ hn4 g4;subst hn4;have m13:=m1;have m23:=n2;have r1:=(g4.get _ m1 zB2).trans r1;have m1:=zA0 m1 g4.nx;have r2:=(g4.get _ n2 zB2).trans r2;have n2:=zA0 n2 g4.nx;have hoa4:=z_.gr cK cM g4;have n23:=g3.nx;have b2:N+2<H2.nx:=by assumption
 have keep:Fr (fun j=>j=N+1∨j=N+2) H4 ((H4.mod (N+1) (.arr [.o (.str nm),va] 26 0 0)).mod (N+2) (.arr [.o (.str nm),vb] 26 0 0)):=((Fr.refl _).mod _ (.inr (.inl rfl))).mod _ (.inr (.inr rfl));have hN1:H.nx≤N+1:=by have:=hN.out;omega
 have hN2:H.nx≤N+2:=by omega
 have hle:H.nx≤H2.nx:=by omega
 have ka:=(hoa4.fr cK cM keep fun j hj=>.inl (by omega)).less (X':=fun j=>j<H.nx) fun j hj=>by omega
 have kb:=(L4.fr cK cM keep fun j hj=>.inl (by omega)).less (X':=fun j=>j<H.nx) fun j hj=>by omega
 have g9:=(((g12.gr g3).gr g4).mod (i:=N+1) (.arr [.o (.str nm),va] 26 0 0) (.inl hN1)).mod (i:=N+2) (.arr [.o (.str nm),vb] 26 0 0) (.inl hN2);simp (config:={decide:=true}) only [qB,Nat.reduceLT,Nat.reduceAdd,qD,bK,bS,aS,t4,t5,B0,r1,m1,r2,n2,nQ]
 refine hK _ _ ?_;clear hK K;refine qV ?_;exact fin nm va vb _ _ (by simp only[aa,Nat.reduceEqDiff,reduceIte,t4]) (by simp only[aa,Nat.reduceEqDiff,reduceIte,t5]) qp (by simp only[ai,C0];rfl) ((aq (by omega)).trans (ak rfl)) (ak rfl) g9 rfl (fun _=>⟨q,q',ka,kb⟩) fun h=>absurd rfl h
theorem PO:al Tryz.prog 141=true:=by kernel_rfl
theorem To:al Tryz.prog 177=true:=by kernel_rfl
def qv:Nat→List (List UInt8)→List UInt8→Int
 | _,[],_=>-1
 | n,x::l,s=>if s=x then (n:Int) else qv (n+1) l s
theorem Cr:∀ (n:Nat) (l:List (List UInt8)) (s:List UInt8),decide (0≤qv n l s)=l.contains s
 | _,[],_=>rfl
 | n,x::l,s=>by
  unfold qv;rw[List.contains_cons];by_cases h:s=x
  ·subst h;rw[zB0 rfl,beq_self_eq_true,Bool.true_or];exact decide_eq_true (by omega)
  rw[zB1 h,zB5 h,Bool.false_or];exact Cr (n+1) l s
def eF (g:Gd) (s:List UInt8):Bool:=if g.2.2=[] then g.1==s else g.2.2.contains s
theorem Nc (H:Hp) (v:AC) (l:List (List UInt8)) (s:List UInt8) (hv:SlS H v l) (hL:l.length≤4611686018427387904):Con E2 177 [.one v,.one (.o (.str s))] H (fun _=>False) fun r _=>r=.one (.i .i64 (qv 0 l s)):=by
 refine Con.of rfl fun lg=>?_;have hv:SlS ⟨H.t,H.nx,lg⟩ v l:=hv;generalize (⟨H.t,H.nx,lg⟩:Hp)=H at hv ⊢;refine C1.body (E:=E2) (nt:=19) (res:=[.tmp 4]) Tryz.func177 rfl rfl rfl rfl rfl fun tm A0=>?_;have h0:=A0 0 _ rfl;have h1:=A0 1 _ rfl;clear A0;have fin:∀ (e:Int) (A:ab) (H3:Hp),slot A.tm 4=.one (.i .i64 e)→A.dfr=[]→Gr H H3→e=qv 0 l s→∃ w H4,aC E2 [.tmp 4] (.ret,A,H3)=.ok [(w,H4)]∧Gr H H4∧∀ _:List Nat,w=.one (.i .i64 (qv 0 l s)):=fun e A H3 h1 h2 h3 h4=>⟨_,H3,aj (.i .i64 e) (.inr rfl) h2 h1,h3,fun _=>by rw[h4]⟩;generalize E0:qv 0 l s=r0 at fin;have l1:=hv.len;have l2:=hv.lt;replace E0:Hd _:=E0;refine zW tyF ?_;refine R1.dp fun K k1 k2 k3 k4=>?_;refine R1.loop (fun z A H3=>∃ i:Nat,z=l.length - i∧i≤l.length∧H3=H∧Hd (qv i (l.drop i) s=r0)∧slot A.tm 0=.one (v)∧slot A.tm 1=.one ((.o (.str s)))∧slot A.tm 6=.one (v)∧slot A.tm 7=.one (.i .i64 (l.length:Int))∧slot A.tm 8=.one (.i .i64 (i:Int))∧A.nt=19∧A.dfr=[]) ?_ l.length
  ⟨0,rfl,Nat.zero_le _,rfl,E0,zL⟩
 clear h0 h1 E0 tm l1 l2 k3;rintro z A H3 ⟨i,rfl,hi,rfl,hr,t0,t1,t6,t7,t8,B0,C0⟩;refine zW tyF ?_;refine zI tyF (fun hc=>?_) (fun hc=>?_)
 ·have D0:i<l.length:=by omega
  have ex:=zB4 D0;have O0:=zC1 D0;have Z0:=zC2 D0;have G0:l[i]∈l:=List.getElem_mem D0;generalize l[i]=x at ex O0 Z0 G0;have Q1:=zC0 i (by omega);obtain ⟨id,g,off,cells,rfl,hid,R0,J0⟩:=hv.open (by omega);obtain ⟨y1,y2⟩:=J0 i x ex;have S0:=hr.out;rw[O0,qv] at S0;clear J0 G0 Z0 O0 hr ex;refine zW tyF ?_;refine R1.dp fun K2 p1 p2 p3 p4=>?_;by_cases q:s=x
  ·have hn:(i:Int)=r0:=by rw[←S0];exact (zB0 q).symm
   subst q;have es:(s==s)=true:=beq_self_eq_true s;have es2:lEq s s=true:=(cQ s s).trans (beq_self_eq_true s);replace hn:Hd _:=hn;clear S0;refine zW (qA tyF (ixC D0)) ?_;exact p4.out _ _ (k4.out _ _ (fin ((i:Int)) _ _ qp qe (Fr.refl _) (hn.out)))
  have hn:qv (i+1) (l.drop (i+1)) s=r0:=by rw[←S0];exact (zB1 q).symm
  have es:(s==x)=false:=zB5 q;have es2:lEq s x=false:=by rw[cQ];exact es
  replace hn:Hd _:=hn;clear S0 q;refine zW (qA tyF (ixC D0)) ?_;refine p1.out _ _ ?_;refine zW tyF ?_;exact ⟨l.length - (i+1),by omega,i+1,rfl,D0,rfl,hn,zL⟩
 have he:i=l.length:=by omega
 subst he;have hn:=hr.out;rw[List.drop_length,qv] at hn;replace hn:Hd _:=hn;clear hr;refine zW tyF ?_;refine k2.out _ _ ?_;refine zW tyF ?_;exact fin (-1) _ _ qp qe (Fr.refl _) (hn.out)
theorem Mr (H:Hp) (v:AC) (l:List (List UInt8)) (s:List UInt8) (hv:SlS H v l) (hL:l.length≤4611686018427387904):Con E2 141 [.one v,.one (.o (.str s))] H (fun _=>False) fun r _=>r=.one (.b (l.contains s)):=by
 refine Con.of rfl fun lg=>?_;have hv:SlS ⟨H.t,H.nx,lg⟩ v l:=hv;generalize (⟨H.t,H.nx,lg⟩:Hp)=H at hv ⊢;refine C1.body (E:=E2) (nt:=9) (res:=[.tmp 4]) Tryz.func141 rfl rfl rfl rfl rfl fun tm A0=>?_;have h0:=A0 0 _ rfl;have h1:=A0 1 _ rfl;clear A0;have fin:∀ (e:Bool) (A:ab) (H3:Hp),slot A.tm 4=.one (.b e)→A.dfr=[]→Gr H H3→e=l.contains s→∃ w H4,aC E2 [.tmp 4] (.ret,A,H3)=.ok [(w,H4)]∧Gr H H4∧∀ _:List Nat,w=.one (.b (l.contains s)):=fun e A H3 h1 h2 h3 h4=>⟨_,H3,aj (.b e) (.inr rfl) h2 h1,h3,fun _=>by rw[h4]⟩;generalize E0:l.contains s=r0 at fin;have l2:=hv.lt;have hn:decide (0≤qv 0 l s)=r0:=(Cr 0 l s).trans E0;replace hn:Hd _:=hn;clear E0;refine zW tyF ?_;refine zG (qA tyF To) fun K hK=>?_;refine WE.con (Nc H v l s hv hL) fun w2 H2 g2 C4=>?_;subst C4;refine zK tyF ?_;exact fin (decide (0≤qv 0 l s)) _ _ qp qe (g2) (hn.out)
theorem MB (H:Hp) (g:Gd) (u:AC) (s:List UInt8) (hu:SlS H u g.2.2) (hL:g.2.2.length≤4611686018427387904):Con E2 79 [.agg [.o (.str g.1),.o (.str g.2.1),u],.one (.o (.str s))] H (fun _=>False) fun r _=>r=.one (.b (eF g s)):=by
 refine Con.of rfl fun lg=>?_;have hu:SlS ⟨H.t,H.nx,lg⟩ u g.2.2:=hu;generalize (⟨H.t,H.nx,lg⟩:Hp)=H at hu ⊢;refine C1.body (E:=E2) (nt:=17) (res:=[.tmp 4]) Tryz.func79 rfl rfl rfl rfl rfl fun tm A0=>?_;have h0:=A0 0 _ rfl;have h1:=A0 1 _ rfl;clear A0;have fin:∀ (e:Bool) (A:ab) (H3:Hp),slot A.tm 4=.one (.b e)→A.dfr=[]→Gr H H3→e=eF g s→∃ w H4,aC E2 [.tmp 4] (.ret,A,H3)=.ok [(w,H4)]∧Gr H H4∧∀ _:List Nat,w=.one (.b (eF g s)):=fun e A H3 h1 h2 h3 h4=>⟨_,H3,aj (.b e) (.inr rfl) h2 h1,h3,fun _=>by rw[h4]⟩;generalize E0:eF g s=r0 at fin;obtain ⟨gn,gl,go⟩:=g;have l2:=hu.lt;replace E0:Hd _:=E0;refine zG tyF fun K hK=>?_;refine hK.out _ _ ?_;refine R1.gen (fun A1 H1=>Gr H H1∧H.nx<H1.nx∧H1.get H.nx=some (.arr [.o (.str gn),.o (.str gl),u] 104 0 0)∧slot A1.tm 1=.one ((.o (.str s)))∧slot A1.tm 2=.one ((.o (.ptr H.nx 0 0 3)))∧A1.nt=17∧A1.dfr=[])
  ⟨(Fr.refl _).new _,zA6 _,az rfl,zL⟩ ?_
 clear h0 h1 tm hK K l2;rintro A1 H1 ⟨g1,m1,rx,t1,t2,B0,C0⟩;obtain ⟨N,hN⟩:∃ N,N=H.nx:=⟨_,rfl⟩;rw[←hN] at m1 rx t2;clear hN;have hu:=hu.gr g1;have l1:=hu.len;have l2:=hu.lt;by_cases q:go=[]
 ·have hn:lEq gn s=r0:=by rw[←E0.out,cQ];exact (zB0 (by exact q)).symm
  subst q;replace hn:Hd _:=hn;have e0:(((([]:List (List UInt8)).length:Nat):Int)==0)=true:=rfl;clear E0;refine zW tyF ?_;exact fin (lEq gn s) _ _ qp qe (g1) (hn.out)
 have hn:go.contains s=r0:=by rw[←E0.out];exact (zB1 (by exact q)).symm
 have e0:((go.length:Int)==0)=false:=zB5 fun h=>q (List.eq_nil_of_length_eq_zero (by omega));replace hn:Hd _:=hn;clear E0 q;refine zW tyF ?_;refine zG (qA tyF PO) fun K hK=>?_;refine WE.con (Mr H1 u go s hu hL) fun w2 H2 g2 C4=>?_;subst C4;refine zK tyF ?_;exact fin (go.contains s) _ _ qp qe (g1.gr g2) (hn.out)
def fj (gs:List Gd) (s:List UInt8):Gd:=(gs[(dc 0 gs s).toNat]?).getD ([],[],[])
def bQ (gs:List Gd):Nat→List Cs→List (Cl×Int)→List (Cl×Int)×Int
 | _,[],acc=>(acc,0)
 | i,c::cs,acc=>
  if c.kind=4∨c.aN=[] then bQ gs (i+1) cs acc else if dc 0 gs c.aN<0 then ([],4) else if c.kind=1∧(fj gs c.aN).2.2≠[] then ([],52) else if acc.length=64 then ([],3) else
  bQ gs (i+1) cs (acc++[(((i:Int),c.aN,(fj gs c.aN).2.1,c.num),c.kind)])
def fJ (key:List UInt8×Int):Nat→Nat→List (Cl×Int)→Nat
 | _,a,[]=>a
 | n,a,x::l=>fJ key (n+1) (if x.1.2.1=key.1∧x.2=key.2 then n+1 else a) l
def dw (g:Gd) (fr:Nat):Nat→List (Cl×Int)→List Int
 | _,[]=>[]
 | n,x::l=>if fr≤n∧x.2=1∧eF g x.1.2.1=true then (n:Int)::dw g fr (n+1) l else dw g fr (n+1) l
def jP (gs:List Gd) (pre:List (Cl×Int)) (x:Cl×Int):List Rl:=if x.2=1 then [] else [((pre.length:Int),dw (fj gs x.1.2.1) (fJ (x.1.2.1,x.2) 0 0 pre) 0 pre)]
def dv (gs:List Gd):List (Cl×Int)→List (Cl×Int)→List Rl
 | _,[]=>[]
 | pre,x::l=>jP gs pre x++dv gs (pre++[x]) l
def bp:Nat→List (Cl×Int)→List Int
 | _,[]=>[]
 | n,x::l=>if x.2=1 then (n:Int)::bp (n+1) l else bp (n+1) l
def gE (o:Option (List Lad)) (gs:List Gd) (t:Tb):Int:=if pV o gs≠0 then pV o gs else if kE t≠0 then kE t else (bQ gs 0 t.2 []).2
def eG (o:Option (List Lad)) (gs:List Gd) (t:Tb):List (Cl×Int):=if gE o gs t=0 then (bQ gs 0 t.2 []).1 else []
def cw (o:Option (List Lad)) (gs:List Gd) (t:Tb):Pz:=((eG o gs t).map Prod.fst,dv gs [] (eG o gs t))
theorem QW {o:Option (List Lad)} {gs:List Gd} (h:pV o gs=0):gs.length≤1000000:=by
 cases o with
 | none=>cases h
 | some ls=>
  have h':(if (32:Int)<gs.length then 3 else goG ls [] gs)=0:=h;by_cases c:(32:Int)<gs.length
  ·rw[zB0 c] at h';cases h'
  omega
theorem uQ (gs:List Gd):∀ (l pre:List (Cl×Int)) (x:Cl×Int),dv gs pre (l++[x])=dv gs pre l++jP gs (pre++l) x
 | [],pre,x=>by
  show jP gs pre x++[]=[]++jP gs (pre++[]) x;rw[List.append_nil,List.append_nil,List.nil_append]
 | y::l,pre,x=>by
  show jP gs pre y++dv gs (pre++[y]) (l++[x])=(jP gs pre y++dv gs (pre++[y]) l)++jP gs (pre++y::l) x;rw[uQ gs l (pre++[y]) x,List.append_assoc,List.append_assoc];rfl
theorem yZ:∀ (n:Nat) (l:List (Cl×Int)) (x:Cl×Int),bp n (l++[x])=bp n l++(if x.2=1 then [((n+l.length:Nat):Int)] else [])
 | n,[],x=>by
  show (if x.2=1 then (n:Int)::[] else [])=_;split <;> rfl
 | n,y::l,x=>by
  have e:n+1+l.length=n+(l.length+1):=by omega
  show (if y.2=1 then (n:Int)::bp (n+1) (l++[x]) else bp (n+1) (l++[x]))=(if y.2=1 then (n:Int)::bp (n+1) l else bp (n+1) l)++_;rw[yZ (n+1) l x,List.length_cons,e];split <;> rfl
theorem mY (key:List UInt8×Int):∀ (n a:Nat) (l:List (Cl×Int)) (x:Cl×Int),fJ key n a (l++[x])=if x.1.2.1=key.1∧x.2=key.2 then n+l.length+1 else fJ key n a l
 | n,a,[],x=>by
  show (if x.1.2.1=key.1∧x.2=key.2 then n+1 else a)=_;rfl
 | n,a,y::l,x=>by
  show fJ key (n+1) _ (l++[x])=_;rw[mY key (n+1) _ l x,List.length_cons];have e:n+1+l.length+1=n+(l.length+1)+1:=by omega
  rw[e];rfl
theorem Bg {gs:List Gd} {s:List UInt8} (h:0≤dc 0 gs s):∃ i:Nat,dc 0 gs s=(i:Int)∧gs[i]?=some (fj gs s)∧(fj gs s).1=s:=by
 rcases kP 0 gs s with h1|⟨k,y,h1,h2⟩
 ·omega
 refine ⟨k,by rw[h2,Nat.zero_add],?_,?_⟩
 ·unfold fj;rw[h2,Nat.zero_add,Int.toNat_natCast,h1];rfl
 unfold fj;rw[h2,Nat.zero_add,Int.toNat_natCast,h1];show y.1=s;exact idxG_name 0 gs s k y h1 h2
where
 idxG_name:∀ (n:Nat) (l:List Gd) (s:List UInt8) (k:Nat) (y:Gd),l[k]?=some y→dc n l s=((n+k:Nat):Int)→y.1=s
  | _,[],_,_,_,h,_=>by cases h
  | n,x::l,s,0,y,h,h2=>by
   cases h
   unfold dc at h2;by_cases hx:x.1=s
   ·exact hx
   rw[zB1 hx] at h2;rcases kP (n+1) l s with h3|⟨k,y,_,h3⟩
   ·rw[h3] at h2;omega
   rw[h3] at h2;omega
  | n,x::l,s,k+1,y,h,h2=>by
   unfold dc at h2;by_cases hx:x.1=s
   ·rw[zB0 hx] at h2;omega
   rw[zB1 hx] at h2;exact idxG_name (n+1) l s k y (by simpa using h) (by rw[h2];omega)
theorem Vk:∀ (H:Hp) (lg:List Nat) (c:List AC) (x:Cl),ClR H c x→ClR ⟨H.t,H.nx,lg⟩ c x:=fun _ _ _ _ h=>h
def TZ (gs:List Gd) (cs:List Cs) (x:Cl×Int):Prop:=∃ (j:Nat) (c:Cs),x.1.1=(j:Int)∧cs[j]?=some c∧c.kind=x.2∧c.aN=x.1.2.1∧0≤dc 0 gs x.1.2.1∧x.1.2.2.1=(fj gs x.1.2.1).2.1∧x.1.2.2.2=c.num∧x.2≠4∧x.1.2.1≠[]
theorem rr (gs:List Gd) (all:List Cs):∀ (i:Nat) (cs:List Cs) (acc:List (Cl×Int)),all.drop i=cs→(∀ x∈acc,TZ gs all x)→acc.length≤64→(∀ x∈(bQ gs i cs acc).1,TZ gs all x)∧(bQ gs i cs acc).1.length≤64
 | _,[],acc,_,h,hl=>⟨h,hl⟩
 | i,c::cs,acc,hd,h,hl=>by
  have hc:all[i]?=some c:=by
   have h1:(all.drop i)[0]?=some c:=by rw[hd];rfl
   rw[List.getElem?_drop] at h1;exact h1
  have hd2:all.drop (i+1)=cs:=by
   rw[←List.drop_drop,hd];rfl
  unfold bQ;split
  ·exact rr gs all (i+1) cs acc hd2 h hl
  rename_i c1
  split
  ·exact ⟨(fun _ h=>by cases h),Nat.zero_le _⟩
  rename_i c2
  split
  ·exact ⟨(fun _ h=>by cases h),Nat.zero_le _⟩
  split
  ·exact ⟨(fun _ h=>by cases h),Nat.zero_le _⟩
  rename_i c4
  refine rr gs all (i+1) cs _ hd2 (fun x hx=>?_) (by rw[List.length_append];show acc.length+1≤64;omega);rcases List.mem_append.1 hx with hx|hx
  ·exact h x hx
  rw[List.mem_singleton.1 hx];exact ⟨i,c,rfl,hc,rfl,rfl,by show 0≤dc 0 gs c.aN;omega,rfl,rfl,fun h=>c1 (.inl h),fun h=>c1 (.inr h)⟩
theorem tT (g:Gd) (fr:Nat):∀ (n:Nat) (l:List (Cl×Int)),(dw g fr n l).length≤l.length
 | _,[]=>zA1 _
 | n,x::l=>by
  have:=tT g fr (n+1) l;show (if fr≤n∧x.2=1∧eF g x.1.2.1=true then (n:Int)::dw g fr (n+1) l else dw g fr (n+1) l).length≤l.length+1;split
  ·rw[List.length_cons];omega
  omega
theorem kC (gs:List Gd):∀ (pre l:List (Cl×Int)),(dv gs pre l).length≤l.length
 | _,[]=>zA1 _
 | pre,x::l=>by
  have:=kC gs (pre++[x]) l;show (jP gs pre x++dv gs (pre++[x]) l).length≤l.length+1;rw[List.length_append];unfold jP;split
  ·simp only[List.length_nil];omega
  simp only[List.length_cons,List.length_nil];omega
theorem HR {α:Type} {l:List α} {i:Nat} {x:α} (h:l[i]?=some x):l.take (i+1)=l.take i++[x]:=by
 rw[List.take_add_one,h];rfl
theorem eo.ids {H:Hp} {v:AC} {e:TypeId} {sz n:Nat} {cells:List AC} {r:Option Nat} (h:eo H v e sz n cells r):∀ id∈(AV.one v).ids,r=some id:=by
 rcases h with ⟨rfl,_⟩|⟨id,lo,gen,e,rfl,_⟩
 ·intro i hi;cases hi
 intro i hi;rw[List.mem_singleton.1 hi];exact e
def BZ (_:Hp) (c:List AC) (x:Int):Prop:=c=[.i .i64 x]
theorem sK:FrR BZ:=fun _ _ _ _ _ h _ _=>h
theorem qf:LtR BZ:=fun H c x h i hi=>by
 have h:c=[.i .i64 x]:=h;subst h;cases hi
theorem Vl:∀ (H:Hp) (lg:List Nat) (c:List AC) (x:Rl),RlR H c x→RlR ⟨H.t,H.nx,lg⟩ c x:=fun _ _ _ _ h=>h
theorem Qp {H:Hp} {Q:List AC→Prop}:∀ {css:List (List AC)} {l:List Int},Al (fun c x=>c.length=1∧BZ H c x∧Q c) css l→css.flatMap id=l.flatMap sH
 | [],[],_=>rfl
 | c::css,x::l,⟨⟨_,h,_⟩,h2⟩=>by
  have h:c=[.i .i64 x]:=h;subst h;rw[List.flatMap_cons,List.flatMap_cons,Qp h2];rfl
theorem bk.sli {e:TypeId} {X:Nat→Prop} {H:Hp} {v:AC} {l:List Int} {r:Option Nat} (h:bk BZ 1 e X H v l r):SlI H v l:=by
 obtain ⟨css,a,b⟩:=h.own;have:=a.slc;rw[Qp b] at this;exact this
section
variable {α:Type}
theorem bk.EX {R:Hp→List AC→α→Prop} (hl:LtR R) {sz:Nat} {e:TypeId} {X X':Nat→Prop} {H:Hp} {v:AC} {l:List α} {r:Option Nat} (h:bk R sz e X H v l r) (hx:∀ i,X' i→X i∨H.nx≤i):bk R sz e X' H v l r:=(h.TA hl).less hx
def qK (X:Nat→Prop) (col:Nat→Nat) (k:Nat):Nat→Prop:=fun j=>X j∨col j≠k
def LJ (n:Nat) (col:Nat→Nat) (k:Nat):Nat→Nat:=fun j=>if j<n then col j else k
theorem RT {n:Nat} {col:Nat→Nat} {k j:Nat} (h:j<n):LJ n col k j=col j:=zB0 h
theorem Jy {n:Nat} {col:Nat→Nat} {k j:Nat} (h:n≤j):LJ n col k j=k:=zB1 (by omega)
theorem NL {X:Nat→Prop} {col:Nat→Nat} {n k k2 j:Nat} (h:qK X (LJ n col k) k2 j):qK X col k2 j∨n≤j:=by
 by_cases hj:j<n
 ·rcases h with h|h
  ·exact .inl (.inl h)
  exact .inl (.inr (by rw[←RT (col:=col) (k:=k) hj];exact h))
 exact .inr (by omega)
theorem bk.Gs {P:Program} {R:Hp→List AC→α→Prop} (hR:FrR R) (hl:LtR R) {H8 H:Hp} {t e:TypeId} {sz by_:Nat} {z:Value} {X:Nat→Prop} {col:Nat→Nat} {k:Nat} {v:AC} {l:List α} {r:Option Nat} (he:bd P t=some (e,sz)) (hb:cG P e=some by_) (hz:aA P e=some z) (M1:(ofValue z).cells.length=sz) (G1:sz≠0)
  (ho:bk R sz e (qK X col k) H8 v l r) (g:Gr H8 H) (hX:∀ i,X i→i<H.nx) {c0:List AC} {x:α} (b6:c0.length=sz) (hx:R H c0 x) (hi:∀ id∈jh c0,H8.nx≤id∧¬X id) (hL:l.length+1≤140737488355328∧(l.length+1)*by_≤140737488355328):
  ltV (.one v) (H.new (.arr c0 e 0 0)).nx∧∃ v' H' r',ba P (H.new (.arr c0 e 0 0)) t (.one v) (.one (.o (.sl H.nx 0 0 1 sz)))=.val (.one v') H' ∧
   bk R sz e (qK X (LJ H8.nx col k) k) H' v' (l++[x]) (some r')∧Fr (fun i=>¬X i) H H'∧(∀ i,H.nx≤i→X i→False) ∧
   ∀ k2,k2≠k→∀ {β:Type} {R2:Hp→List AC→β→Prop} (_:FrR R2) (_:LtR R2) {sz2:Nat} {e2:TypeId} {v2:AC} {l2:List β} {r2:Option Nat},bk R2 sz2 e2 (qK X col k2) H8 v2 l2 r2→bk R2 sz2 e2 (qK X (LJ H8.nx col k) k2) H' v2 l2 r2:=by
 have ho1:bk R sz e (qK X (LJ H8.nx col k) k) H8 v l r:=bk.EX hl ho fun i h=>NL h;have hg:=g.nx;obtain ⟨D0,v',H',r',L1,Z1,hf,hr⟩:=(ho1.gr hR hl g).push hR hl he hb hz M1 G1 (fun i h=>by
  rcases h with h|h
  ·exact hX i h
  ·by_cases hj:i<H8.nx
   ·omega
   exact absurd (Jy (by omega)) h) b6 hx (fun id hid=>by
  obtain ⟨h1,h2⟩:=hi id hid;refine ⟨fun h=>?_,fun e=>?_⟩
  ·rcases h with h|h
   ·exact h2 h
   exact h (Jy h1)
  have:=(ho.row id e.symm).2;omega) hL
 refine ⟨D0,v',H',r',L1,Z1,hf.mono fun i e h=>(ho.row i e).1 (.inl h),fun i h1 h2=>by have:=hX i h2;omega,fun k2 hk β R2 M_ l7 sz2 e2 v2 l2 r2 h2=>?_⟩;refine ((bk.EX l7 h2 fun i h=>NL h).gr M_ l7 g).fr M_ l7 hf fun i e=>.inl (.inr fun h3=>?_);have h4:=(ho1.row i e).1;exact h4 (.inr fun h5=>hk (h3.symm.trans h5))
end
structure dn (X:Nat→Prop) (H:Hp) (cl:List Cl) (rl:List Rl) (el:List Int) (cv rv ev:AC):Prop where
 own:∃ col r1 r2 r3,bk ClR 5 84 (qK X col 0) H cv cl r1∧bk RlR 2 86 (qK X col 1) H rv rl r2∧bk BZ 1 3 (qK X col 2) H ev el r3
section
variable {X X' Y:Nat→Prop} {H H8 H':Hp} {cl:List Cl} {rl:List Rl} {el:List Int} {cv rv ev:AC}
theorem dn.nil:dn X H [] [] [] (.o .nilS) (.o .nilS) (.o .nilS):=⟨fun _=>0,none,none,none,bk.nil,bk.nil,bk.nil⟩
theorem dn.c (h:dn X H cl rl el cv rv ev):iu H cv cl:=let ⟨_,_,_,_,h1,_,_⟩:=h.own;h1.slr
theorem dn.r (h:dn X H cl rl el cv rv ev):kJ H rv rl:=let ⟨_,_,_,_,_,h1,_⟩:=h.own;h1.slr
theorem dn.e (h:dn X H cl rl el cv rv ev):SlI H ev el:=let ⟨_,_,_,_,_,_,h1⟩:=h.own;bk.sli h1
theorem dn.fr (h:dn X H cl rl el cv rv ev) (hf:Fr Y H H') (hy:∀ i,Y i→X i∨H.nx≤i):dn X H' cl rl el cv rv ev:=by
 obtain ⟨col,r1,r2,r3,h1,h2,h3⟩:=h.own;have hy:∀ (k i:Nat),Y i→qK X col k i∨H.nx≤i:=fun k i h=>(hy i h).elim (fun h=>.inl (.inl h)) .inr;exact ⟨col,r1,r2,r3,h1.fr An vv hf (hy 0),h2.fr Bm vu hf (hy 1),h3.fr sK qf hf (hy 2)⟩
theorem dn.gr (h:dn X H cl rl el cv rv ev) (hf:Gr H H'):dn X H' cl rl el cv rv ev:=h.fr hf fun _ h=>h.elim
theorem dn.less (h:dn X H cl rl el cv rv ev) (hx:∀ i,X' i→X i∨H.nx≤i):dn X' H cl rl el cv rv ev:=by
 obtain ⟨col,r1,r2,r3,h1,h2,h3⟩:=h.own;have hy:∀ (k i:Nat),qK X' col k i→qK X col k i∨H.nx≤i:=fun k i h=>h.elim (fun h=>(hx i h).elim (fun h=>.inl (.inl h)) .inr) fun h=>.inl (.inr h);exact ⟨col,r1,r2,r3,bk.EX vv h1 (hy 0),bk.EX vu h2 (hy 1),bk.EX qf h3 (hy 2)⟩
theorem dn.Gs (h:dn X H8 cl rl el cv rv ev) (g:Gr H8 H) (hX:∀ i,X i→i<H.nx) {c0:List AC} {x:Cl} (b6:c0.length=5) (hx:ClR H c0 x) (hi:∀ id∈jh c0,H8.nx≤id∧¬X id) (hL:cl.length≤64):
  ltV (.one cv) (H.new (.arr c0 84 0 0)).nx∧∃ v' H',ba Tryz.prog (H.new (.arr c0 84 0 0)) 34 (.one cv) (.one (.o (.sl H.nx 0 0 1 5)))=.val (.one v') H'∧dn X H' (cl++[x]) rl el v' rv ev∧Fr (fun i=>¬X i) H H':=by
 obtain ⟨col,r1,r2,r3,h1,h2,h3⟩:=h.own;obtain ⟨z,hz,M1⟩:=Rw;obtain ⟨D0,v',H',r',L1,ho,hf,_,hk⟩:=bk.Gs An vv fq SI hz M1 (by decide) h1 g hX b6 hx hi (by omega);exact ⟨D0,v',H',L1,⟨_,_,_,_,ho,hk 1 (by decide) Bm vu h2,hk 2 (by decide) sK qf h3⟩,hf⟩
theorem dn.Vb (h:dn X H8 cl rl el cv rv ev) (g:Gr H8 H) (hX:∀ i,X i→i<H.nx) {c0:List AC} {x:Rl} (b6:c0.length=2) (hx:RlR H c0 x) (hi:∀ id∈jh c0,H8.nx≤id∧¬X id) (hL:rl.length≤64):
  ltV (.one rv) (H.new (.arr c0 86 0 0)).nx∧∃ v' H',ba Tryz.prog (H.new (.arr c0 86 0 0)) 35 (.one rv) (.one (.o (.sl H.nx 0 0 1 2)))=.val (.one v') H'∧dn X H' cl (rl++[x]) el cv v' ev∧Fr (fun i=>¬X i) H H':=by
 obtain ⟨col,r1,r2,r3,h1,h2,h3⟩:=h.own;obtain ⟨z,hz,M1⟩:=SX;obtain ⟨D0,v',H',r',L1,ho,hf,_,hk⟩:=bk.Gs Bm vu pL RE hz M1 (by decide) h2 g hX b6 hx hi (by omega);exact ⟨D0,v',H',L1,⟨_,_,_,_,hk 0 (by decide) An vv h1,ho,hk 2 (by decide) sK qf h3⟩,hf⟩
theorem dn.Vr (h:dn X H8 cl rl el cv rv ev) (g:Gr H8 H) (hX:∀ i,X i→i<H.nx) {x:Int} (hL:el.length≤64):
  ltV (.one ev) (H.new (.arr [.i .i64 x] 3 0 0)).nx∧∃ v' H',ba Tryz.prog (H.new (.arr [.i .i64 x] 3 0 0)) 57 (.one ev) (.one (.o (.sl H.nx 0 0 1 1)))=.val (.one v') H'∧dn X H' cl rl (el++[x]) cv rv v'∧Fr (fun i=>¬X i) H H':=by
 obtain ⟨col,r1,r2,r3,h1,h2,h3⟩:=h.own;obtain ⟨z,hz,M1⟩:=vI;obtain ⟨D0,v',H',r',L1,ho,hf,_,hk⟩:=bk.Gs (R:=BZ) sK qf di qR hz M1 (by decide) h3 g hX (c0:=[.i .i64 x]) (x:=x) rfl rfl (fun id hid=>by cases hid) (by omega);exact ⟨D0,v',H',L1,⟨_,_,_,_,hk 0 (by decide) An vv h1,hk 1 (by decide) Bm vu h2,ho⟩,hf⟩
end
def isP (g:Gd) (kl:List (Cl×Int)) (fr:Nat) (n:Int):Bool:=decide ((fr:Int) - 1<n)&&eF g (((kl[n.toNat]?).map fun x=>x.1.2.1).getD [])
theorem sD (g:Gd) (fr:Nat):∀ (pre l:List (Cl×Int)),(bp pre.length l).filter (isP g (pre++l) fr)=dw g fr pre.length l
 | _,[]=>rfl
 | pre,x::l=>by
  have ih:=sD g fr (pre++[x]) l;rw[List.length_append,List.append_assoc] at ih;have ih:(bp (pre.length+1) l).filter (isP g (pre++x::l) fr)=dw g fr (pre.length+1) l:=ih;have hx:isP g (pre++x::l) fr (pre.length:Int)=(decide (fr≤pre.length)&&eF g x.1.2.1):=by
   unfold isP;rw[Int.toNat_natCast,List.getElem?_append_right (zA1 _),Nat.sub_self];congr 1
   exact decide_eq_decide.2 (by omega)
  show (if x.2=1 then (pre.length:Int)::bp (pre.length+1) l else bp (pre.length+1) l).filter _=(if fr≤pre.length∧x.2=1∧eF g x.1.2.1=true then (pre.length:Int)::dw g fr (pre.length+1) l else dw g fr (pre.length+1) l);by_cases h1:x.2=1
  ·rw[zB0 h1,List.filter_cons,hx,ih];exact ite_congr (propext (by simp[h1])) (fun _=>rfl) (fun _=>rfl)
  rw[zB1 h1,zB1 (fun h=>h1 h.2.1),ih]
theorem xm:∀ (k:Nat) (l:List (Cl×Int)) (n:Int),n∈bp k l→∃ (m:Nat) (x:Cl×Int),n=((k+m:Nat):Int)∧l[m]?=some x
 | _,[],_,h=>by cases h
 | k,x::l,n,h=>by
  have h:n∈(if x.2=1 then (k:Int)::bp (k+1) l else bp (k+1) l):=h;have go:n∈bp (k+1) l→∃ (m:Nat) (y:Cl×Int),n=((k+m:Nat):Int)∧(x::l)[m]?=some y:=fun h=>by
   obtain ⟨m,y,h1,h2⟩:=xm (k+1) l n h;exact ⟨m+1,y,by rw[h1];congr 1;omega,h2⟩
  split at h
  ·rcases List.mem_cons.1 h with h|h
   ·exact ⟨0,x,h,rfl⟩
   exact go h
  exact go h
theorem ze:∀ (k:Nat) (l:List (Cl×Int)),(bp k l).length≤l.length
 | _,[]=>zA1 _
 | k,x::l=>by
  have:=ze (k+1) l;show (if x.2=1 then (k:Int)::bp (k+1) l else bp (k+1) l).length≤l.length+1;split
  ·rw[List.length_cons];omega
  omega
abbrev kvT:List UInt8×Int→AV:=fun x=>.agg [.o (.str x.1),.i .i64 x.2]
theorem TC:Us Tryz.prog 152 kvT:=Uj Ht OP fun _ _ _=>by kernel_rfl
def uz (l:List ((List UInt8×Int)×AC)) (kl:List (Cl×Int)):Prop:=∀ key:List UInt8×Int,key.2≠1→atG l key=if fJ key 0 0 kl=0 then none else some (.i .i64 ((fJ key 0 0 kl:Nat) - 1:Int))
theorem uz.nil:uz [] []:=fun _ _=>rfl
theorem uz.entry {l:List ((List UInt8×Int)×AC)} {kl:List (Cl×Int)} (h:uz l kl) {x:Cl×Int} (hx:x.2=1):uz l (kl++[x]):=fun key hk=>by
 have e:fJ key 0 0 (kl++[x])=fJ key 0 0 kl:=by rw[mY,zB1 (fun h=>hk (h.2.symm.trans hx))]
 rw[e];exact h key hk
theorem uz.total {l:List ((List UInt8×Int)×AC)} {kl:List (Cl×Int)} (h:uz l kl) (x:Cl×Int):uz (iG l (x.1.2.1,x.2) (.i .i64 (kl.length:Int))) (kl++[x]):=fun key hk=>by
 rw[Jf];by_cases hh:x.1.2.1=key.1∧x.2=key.2
 ·have e:(x.1.2.1,x.2)=key:=by rw[hh.1,hh.2]
  have e2:fJ key 0 0 (kl++[x])=kl.length+1:=by rw[mY,zB0 hh,Nat.zero_add]
  rw[zB0 e,e2,zB1 (by omega)];congr 2;omega
 have e:¬(x.1.2.1,x.2)=key:=fun e=>hh ⟨by rw[←e],by rw[←e]⟩;have e2:fJ key 0 0 (kl++[x])=fJ key 0 0 kl:=by rw[mY,zB1 hh]
 rw[zB1 e,e2];exact h key hk
end Go.Proofs.YtnhbkodnmkojpaaGreat
end

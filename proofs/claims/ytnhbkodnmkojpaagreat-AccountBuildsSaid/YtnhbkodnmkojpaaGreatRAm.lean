/- A part of the proof: BkRef6, BkBooks, BkArg, BkStay, BkFacts4, BkNum1, BkNum2, BkNum3, BkNum4, BkNum5. No conditions. -/
import Derived.Test.YtnhbkodnmkojpaaGreatRAl
import Derived.Carry
import Derived.KernelRfl
set_option maxRecDepth 100000
set_option maxHeartbeats 64000000
set_option linter.unusedVariables false
set_option linter.unusedSimpArgs false
noncomputable section
namespace Go.Proofs.YtnhbkodnmkojpaaGreat
open Go Go.Eng
theorem Da (H:Hp) (v:AC) (bf:List Gd) (x:Gd) (u:AC) (hv:SlG H v bf) (hu:SlS H u x.2.2) (hL:bf.length≤1000000) (hLx:x.2.2.length≤4611686018427387904):
  Con E2 81 [.one v,.agg [.o (.str x.1),.o (.str x.2.1),u]] H (fun _=>False) fun r _=>r=.one (.b (oL bf x)):=by
 refine Con.of rfl fun lg=>?_;have hv:SlG ⟨H.t,H.nx,lg⟩ v bf:=hv;have hu:SlS ⟨H.t,H.nx,lg⟩ u x.2.2:=hu;generalize (⟨H.t,H.nx,lg⟩:Hp)=H at hv hu ⊢;refine C1.body (E:=E2) (nt:=60) (res:=[.tmp 4]) Tryz.func81 rfl rfl rfl rfl rfl fun tm A0=>?_;have h0:=A0 0 _ rfl;have h1:=A0 1 _ rfl;clear A0;refine qG (qA ad h1) fun K hK=>?_;refine hK _ _ ?_;clear hK K;refine R1.gen (fun A1 H1=>Gr H H1∧H.nx<H1.nx∧H1.get H.nx=some (.arr [.o (.str x.1),.o (.str x.2.1),u] 104 0 0)∧slot A1.tm 0=.one v∧slot A1.tm 3=.one (.o (.ptr H.nx 0 0 3))∧A1.nt=60∧A1.dfr=[])
  ⟨(Fr.refl _).new _,?_⟩ ?_
 ·exact qZ h0
 rintro A1 H1 ⟨g1,lb,rb,t0,t3,B0,C0⟩;clear h0 h1 tm;have B2:=hv.gr g1;have Q1:=hu.gr g1;have fin:∀ (A:ab) (H3:Hp) (b:Bool),slot A.tm 4=.one (.b b)→A.dfr=[]→Gr H H3→b=oL bf x→∃ w H4,an E2 [.tmp 4] (.ret,A,H3)=.ok [(w,H4)]∧Gr H H4∧∀ _:List Nat,w=.one (.b (oL bf x)):=fun A H3 b h1 h2 h3 h4=>⟨_,H3,ah (.b b) (.inr rfl) h2 h1,h3,fun _=>by rw[h4]⟩;refine qW B0 ?_;refine R1.aG fun K k1 k2 k3 k4=>?_;refine R1.loop (fun k A H2=>∃ i:Nat,k=x.2.2.length - i∧i≤x.2.2.length∧Gr H1 H2∧(∀ j,j<i→gOK bf x j (x.2.2.getD j [])=true)∧slot A.tm 0=.one v∧slot A.tm 3=.one (.o (.ptr H.nx 0 0 3))∧slot A.tm 5=.one (.i .i64 (i:Int))∧A.nt=60∧A.dfr=[]) ?_ x.2.2.length
  ⟨0,rfl,Nat.zero_le _,Fr.refl _,fun j hj=>absurd hj (Nat.not_lt_zero j),?_⟩
 ·clear t0 t3 B0 C0 A1;rintro k A H2 ⟨i,rfl,hi,g2,T1,t0,t3,t5,B0,C0⟩;have Y2:=Q1.gr g2;have X1:=B2.gr g2;have rb:H2.get H.nx=some (.arr [.o (.str x.1),.o (.str x.2.1),u] 104 0 0):=by rw[g2.get _ lb zB2];exact rb
  have lb2:H.nx<H2.nx:=zA0 lb g2.nx;refine qW (qA ad (qA t3 (qA t5 (qA B0 (qA rb (qA lb2 (qA bX (qA dB (qA dJ (qA Y2.len Y2.lt)))))))))) ?_;refine qE fun Kx Ky hx hy=>?_;refine cY (fun hc=>hx ?_) (fun hc=>hy ?_)
  ·clear hx hy Kx Ky;have D0:i<x.2.2.length:=by omega
   obtain ⟨id,g,off,cells,rfl,hid,P0,L0⟩:=Y2.open (by omega);have ew:x.2.2[i]?=some x.2.2[i]:=zB4 D0;have O7:x.2.2.getD i []=x.2.2[i]:=by rw[List.getD_eq_getElem?_getD,ew];rfl
   generalize x.2.2[i]=s at ew O7;obtain ⟨e1,e2⟩:=L0 i s ew;have V0:=zC0 i (by omega);refine qV ?_;refine R1.aG fun K2 q1 q2 q3 q4=>?_;refine qG (qA ad (qA t0 (qA t3 (qA t5 (qA B0 (qA rb (qA lb2 (qA bX (qA dB (qA dK (qA aO (qA (ixC D0) (qA hid (qA P0 (qA e1 (qA e2 wx)))))))))))))))) fun K hK=>?_;refine WE.con (ky H2 v bf s X1 hL) fun w H3 g3 hw=>?_;subst hw;refine qS (qA ad B0) ?_;refine hK _ _ ?_;clear hK K;have g23:=g2.gr g3;have g3':=g1.gr g23;have G5:=B2.gr g23;have rb:H3.get H.nx=some (.arr [.o (.str x.1),.o (.str x.2.1),.o (.sl id g off x.2.2.length 1)] 104 0 0):=by rw[g3.get _ lb2 zB2];exact rb
   have lb:H.nx<H3.nx:=zA0 lb g23.nx;have j_:id<H3.nx:=zA0 hid g3.nx;have V_:rowOf (H3.get id) g=some cells:=by rw[g3.get _ hid zB2];exact P0
   refine R1.Ep (fun A4=>slot A4.tm 0=.one v∧slot A4.tm 3=.one (.o (.ptr H.nx 0 0 3))∧slot A4.tm 5=.one (.i .i64 (i:Int))∧slot A4.tm 6=.one (.i .i64 (bp 0 bf s))∧A4.nt=60∧A4.dfr=[])
    ⟨by simp only[aa,Nat.reduceEqDiff,reduceIte,t0],by simp only[aa,Nat.reduceEqDiff,reduceIte,t3],by simp only[aa,Nat.reduceEqDiff,reduceIte,t5],by simp only[aa,Nat.reduceEqDiff,reduceIte],by simp only[aw,B0],by simp only[aj,C0]⟩ ?_
   clear t0 t3 t5 B0 C0 A;rintro A ⟨t0,t3,t5,t6,B0,C0⟩;rcases jl 0 bf s with hm|⟨k,y,hy0,hk⟩
   ·have c1:(bp 0 bf s<0)=True:=eq_true (by omega);have C7:gOK bf x i s=false:=by
     unfold gOK;split
     ·rw[decide_eq_true (by omega:bp 0 bf s<0)];rfl
     rfl
    refine qG (qA ad (qA t0 (qA t3 (qA t5 (qA t6 (qA B0 (qA rb (qA lb (qA bI (qA dK (qA cu (qA bX (qA aO (qA dB (qA dJ c1))))))))))))))) fun K hK=>?_;refine hK _ _ ?_;clear hK K;refine qY ?_;refine qW B0 ?_;exact q4 _ _ (k4 _ _ (fin _ _ false qp (qd C0) g3' (jL ew C7).symm))
   rw[Nat.zero_add] at hk;have S5:k<bf.length:=(List.getElem?_eq_some_iff.1 hy0).1;have c1:(bp 0 bf s<0)=False:=eq_false (by omega);have T6:gOK bf x i s=(lEq y.2.1 x.2.1&&(!decide (0<(y.2.2.length:Int))&&(!decide (0<(i:Int))||bj (x.2.2.getD (i - 1) []) s))):=by
    unfold gOK;rw[hk,Int.toNat_natCast,hy0,decide_eq_false (by omega:¬(k:Int)<0)];rfl
   obtain ⟨id',g',off',cells',rfl,F1,I2,X2⟩:=G5.open (by omega);obtain ⟨uy,Y0⟩:=X2 k y hy0;rw[hk] at t6 c1;cases c2:lEq y.2.1 x.2.1 with
   | false=>
    refine qG (qA ad (qA t0 (qA t3 (qA t5 (qA t6 (qA B0 (qA rb (qA lb (qA bI (qA dK (qA cu (qA bX (qA aO (qA dB (qA dJ (qA c1 (qA c2 (qA (ixC S5) (qA F1 (qA I2 (qA Y0.f2 Y0.le2))))))))))))))))))))) fun K hK=>?_;refine hK _ _ ?_;clear hK K;refine qY ?_;refine qW B0 ?_;exact q4 _ _ (k4 _ _ (fin _ _ false qp (qd C0) g3' (jL ew (by rw[T6,c2];rfl)).symm))
   | true=>
    by_cases h3:0<(y.2.2.length:Int)
    ·have c3:(0<(y.2.2.length:Int))=True:=eq_true h3;refine qG (qA ad (qA t0 (qA t3 (qA t5 (qA t6 (qA B0 (qA rb (qA lb (qA bI (qA dK (qA cu (qA bX (qA aO (qA dB (qA dJ (qA c1 (qA c2 (qA c3 (qA (ixC S5) (qA F1 (qA I2 (qA Y0.f2 (qA Y0.le2 (qA Y0.f3 (qA Y0.le3 (qA Y0.of.len Y0.of.lt)))))))))))))))))))))))))) fun K hK=>?_;refine hK _ _ ?_;clear hK K;refine qY ?_;refine qW B0 ?_;exact q4 _ _ (k4 _ _ (fin _ _ false qp (qd C0) g3' (jL ew (by rw[T6,c2,decide_eq_true h3];rfl)).symm))
    have c3:(0<(y.2.2.length:Int))=False:=eq_false h3;have good:∀ A2:ab,slot A2.tm 0=.one (.o (.sl id' g' off' bf.length 3))→slot A2.tm 3=.one (.o (.ptr H.nx 0 0 3))→slot A2.tm 5=.one (.i .i64 ((i+1:Nat):Int))→A2.nt=60→A2.dfr=[]→gOK bf x i s=true →
      ∃ k',k'<x.2.2.length - i∧∃ i:Nat,k'=x.2.2.length - i∧i≤x.2.2.length∧Gr H1 H3∧(∀ j,j<i→gOK bf x j (x.2.2.getD j [])=true)∧slot A2.tm 0=.one (.o (.sl id' g' off' bf.length 3))∧slot A2.tm 3=.one (.o (.ptr H.nx 0 0 3))∧slot A2.tm 5=.one (.i .i64 (i:Int))∧A2.nt=60∧A2.dfr=[]:=
     fun A2 a b e f g h=>⟨x.2.2.length - (i+1),by omega,i+1,rfl,D0,g23,fun j hj=>by
      rcases Nat.lt_or_ge j i with h'|h'
      ·exact T1 j h'
      have:j=i:=by omega
      subst this;rw[O7];exact h,a,b,e,f,g⟩
    by_cases h4:0<(i:Int)
    ·have c4:(0<(i:Int))=True:=eq_true h4;have F9:i - 1<x.2.2.length:=by omega
     have ep:x.2.2[i - 1]?=some x.2.2[i - 1]:=zB4 F9;have o_:x.2.2.getD (i - 1) []=x.2.2[i - 1]:=by rw[List.getD_eq_getElem?_getD,ep];rfl
     generalize x.2.2[i - 1]=sp at ep o_;obtain ⟨f1,f2⟩:=L0 (i - 1) sp ep;have hwm:IntKind.i64.wrap ((i:Int) - 1)=((i - 1:Nat):Int):=by rw[ao (by omega) (by omega)];omega
     rw[decide_eq_true h4,o_] at T6;cases c5:bj sp s with
     | false=>
      refine qG (qA ad (qA t0 (qA t3 (qA t5 (qA t6 (qA B0 (qA rb (qA lb (qA bI (qA dK (qA cu (qA bX (qA aO (qA dB (qA dJ (qA c1 (qA c2 (qA c3 (qA c4 (qA c5 (qA hwm (qA (ixC S5) (qA (ixC F9) (qA (ixC D0) (qA F1 (qA I2 (qA Y0.f2 (qA Y0.le2 (qA Y0.f3 (qA Y0.le3 (qA Y0.of.len (qA Y0.of.lt (qA j_ (qA V_ (qA f1 (qA f2 (qA e1 e2))))))))))))))))))))))))))))))))))))) fun K hK=>?_;refine hK _ _ ?_;clear hK K;refine qY ?_;refine qW B0 ?_;exact q4 _ _ (k4 _ _ (fin _ _ false qp (qd C0) g3' (jL ew (by rw[T6,c2,c5,decide_eq_false h3];rfl)).symm))
     | true=>
      refine qG (qA ad (qA t0 (qA t3 (qA t5 (qA t6 (qA B0 (qA rb (qA lb (qA bI (qA dK (qA cu (qA bX (qA aO (qA dB (qA dJ (qA c1 (qA c2 (qA c3 (qA c4 (qA c5 (qA hwm (qA (ixC S5) (qA (ixC F9) (qA (ixC D0) (qA F1 (qA I2 (qA Y0.f2 (qA Y0.le2 (qA Y0.f3 (qA Y0.le3 (qA Y0.of.len (qA Y0.of.lt (qA j_ (qA V_ (qA f1 (qA f2 (qA e1 e2))))))))))))))))))))))))))))))))))))) fun K hK=>?_;refine hK _ _ ?_;clear hK K;refine qY ?_;refine qW B0 ?_;refine q1 _ _ ?_;refine qW (qA B0 (qA t5 V0)) ?_;refine good _ ?_ ?_ ?_ ?_ ?_ (by rw[T6,c2,c5,decide_eq_false h3];rfl);all_goals simp only[aa,aw,aj,Nat.reduceEqDiff,reduceIte,t0,t3,B0,C0]
    have c4:(0<(i:Int))=False:=eq_false h4;rw[decide_eq_false h4] at T6;refine qG (qA ad (qA t0 (qA t3 (qA t5 (qA t6 (qA B0 (qA rb (qA lb (qA bI (qA dK (qA cu (qA bX (qA aO (qA dB (qA dJ (qA c1 (qA c2 (qA c3 (qA c4 (qA (ixC S5) (qA F1 (qA I2 (qA Y0.f2 (qA Y0.le2 (qA Y0.f3 (qA Y0.le3 (qA Y0.of.len Y0.of.lt))))))))))))))))))))))))))) fun K hK=>?_;refine hK _ _ ?_;clear hK K;refine qY ?_;refine qW B0 ?_;refine q1 _ _ ?_;refine qW (qA B0 (qA t5 V0)) ?_;refine good _ ?_ ?_ ?_ ?_ ?_ (by rw[T6,c2,decide_eq_false h3];rfl);all_goals simp only[aa,aw,aj,Nat.reduceEqDiff,reduceIte,t0,t3,B0,C0]
  clear hx hy Kx Ky;have C2:i=x.2.2.length:=by omega
  refine qW B0 ?_;refine k2 _ _ ?_;refine qW B0 ?_;refine fin _ _ true qp (qd C0) (g1.gr g2) ?_;exact (List.all_eq_true.2 fun j hj=>T1 j (by have:=List.mem_range.1 hj;omega)).symm
 simp only[aa,Nat.reduceEqDiff,reduceIte,aw,aj,t0,t3,B0,C0,and_self,true_and];exact ⟨rfl,trivial⟩
def ql (H:Hp) (p:AC):Option (List Lad)→Prop
 | some ls=>RBk H p ls
 | none=>p=.o .nilP
theorem Oi:Tryz.prog.underlying 30=some (.pointer 145):=by kernel_rfl
theorem tI (H:Hp) (p v:AC) (o:Option (List Lad)) (gs:List Gd) (hp:ql H p o) (hL:∀ ls,o=some ls→(∀ x∈ls,x.2.length≤1000000)∧ls.length≤1000000) (hv:SlG H v gs) (hB:∀ x∈gs,x.2.2.length≤4611686018427387904):
  Con E2 32 [.one p,.one v] H (fun _=>False) fun r _=>r=.one (.i .i64 (jS o gs)):=by
 refine Con.of rfl fun lg=>?_;have hp:ql ⟨H.t,H.nx,lg⟩ p o:=by cases o <;> exact hp
 have hv:SlG ⟨H.t,H.nx,lg⟩ v gs:=hv;generalize (⟨H.t,H.nx,lg⟩:Hp)=H at hp hv ⊢;refine C1.body (E:=E2) (nt:=59) (res:=[.tmp 4]) Tryz.func32 rfl rfl rfl rfl rfl fun tm A0=>?_;have h0:=A0 0 _ rfl;have h1:=A0 1 _ rfl;clear A0;have fin:∀ (e:Int) (A:ab) (H3:Hp),slot A.tm 4=.one (.i .i64 e)→A.dfr=[]→Gr H H3→e=jS o gs→∃ w H4,an E2 [.tmp 4] (.ret,A,H3)=.ok [(w,H4)]∧Gr H H4∧∀ _:List Nat,w=.one (.i .i64 (jS o gs)):=fun e A H3 h1 h2 h3 h4=>⟨_,H3,ah (.i .i64 e) (.inr rfl) h2 h1,h3,fun _=>by rw[h4]⟩;cases o with
 | none=>
  have hp:p=.o .nilP:=hp;subst hp;refine qV ?_;repeat refine R1.aE ?_
  refine R1.ow fun K hK=>?_;simp only[qB,aC,Nat.reduceLT,ad,h0,om,HM,vO Oi,Me];refine hK _ _ ?_;clear hK K;refine qY ?_;refine qV ?_;exact fin 1 _ _ qp rfl (Fr.refl _) rfl
 | some ls=>
  have hp:RBk H p ls:=hp;obtain ⟨kb,lad,rfl,b1,b2,b3⟩:=id hp;refine qV ?_;repeat refine R1.aE ?_
  refine R1.ow fun K hK=>?_;simp only[qB,aC,Nat.reduceLT,ad,h0,om,mJ];refine hK _ _ ?_;clear hK K;refine qY ?_;by_cases Q7:(32:Int)<gs.length
  ·have c32:((32:Int)<gs.length)=True:=eq_true Q7;refine qW (qA ad (qA h1 (qA fu (qA hv.len (qA hv.lt c32))))) ?_;refine qY ?_;refine qV ?_;exact fin 3 _ _ qp rfl (Fr.refl _) (zB0 Q7).symm
  have c32:((32:Int)<gs.length)=False:=eq_false Q7;have q8:jS (some ls) gs=goG ls [] gs:=zB1 Q7;generalize E0:goG ls [] gs=r0 at q8;obtain ⟨hL,hL2⟩:=hL ls rfl;refine qW (qA ad (qA h1 (qA fu (qA hv.len (qA hv.lt c32))))) ?_;refine qY ?_;refine qW ad ?_;refine R1.aG fun K k1 k2 k3 k4=>?_;refine R1.loop (fun k A H2=>∃ i:Nat,k=gs.length - i∧i≤gs.length∧Gr H H2∧goG ls (gs.take i) (gs.drop i)=r0∧slot A.tm 0=.one (.o (.ptr kb 0 0 2))∧slot A.tm 1=.one v∧slot A.tm 5=.one (.i .i64 (i:Int))∧A.nt=59∧A.dfr=[]) ?_ gs.length
   ⟨0,rfl,Nat.zero_le _,Fr.refl _,E0,?_⟩
  ·clear h0 h1 tm;rintro k A H2 ⟨i,rfl,hi,g2,hr,t0,t1,t5,B0,C0⟩;have X1:=hv.gr g2;refine qW (qA ad (qA t1 (qA t5 (qA B0 (qA fu (qA X1.len X1.lt)))))) ?_;refine qE fun Kx Ky hx hy=>?_;refine cY (fun hc=>hx ?_) (fun hc=>hy ?_)
   ·clear hx hy Kx Ky;have D0:i<gs.length:=by omega
    obtain ⟨id,g,off,cells,rfl,hid,P0,L0⟩:=X1.open (by omega);have ex:gs[i]?=some gs[i]:=zB4 D0;have Q0:gs.drop i=gs[i]::gs.drop (i+1):=List.drop_eq_getElem_cons D0;have B1:gs.take (i+1)=gs.take i++[gs[i]]:=List.take_succ_eq_append_getElem D0;have G0:gs[i]∈gs:=List.getElem_mem D0;generalize gs[i]=x at ex Q0 B1 G0;obtain ⟨u,K0⟩:=L0 i x ex;have V0:=zC0 i (by omega);have htl:(gs.take i).length≤1000000:=by rw[List.length_take];omega
    rw[Q0,goG] at hr;refine qV ?_;refine R1.aG fun K2 q1 q2 q3 q4=>?_;refine qG (qA ad (qA t1 (qA t5 (qA B0 (qA bI (qA fH (qA aO (qA (ixC D0) (qA hid (qA P0 (qA K0.f1 (qA K0.le1 kX)))))))))))) fun K hK=>?_;refine WE.con (dT H2 x.1) fun w H4 g4 hw=>?_;subst hw;have g4':=g2.gr g4;have hv4:=X1.gr g4;have O2:id<H4.nx:=zA0 hid g4.nx;have G6:rowOf (H4.get id) g=some cells:=by rw[g4.get _ hid zB2];exact P0
    cases D7:nmB x.1 with
    | false=>
     rw[zB0 D7] at hr;refine qS (qA ad B0) ?_;refine hK _ _ ?_;clear hK K;refine qY ?_;refine qW B0 ?_;exact q4 _ _ (k4 _ _ (fin 50 _ _ qp (qd C0) g4' (by rw[q8,←hr])))
    | true=>
     rw[zB1 (by rw[D7];decide)] at hr;have htk4:=SlR.take hv4 (n:=i) (by omega);refine qS (qA ad (qA t1 (qA t5 (qA B0 (qA bI (qA fH (qA aO (qA (ixC D0) (qA O2 (qA G6 (qA K0.f1 (qA K0.le1 (qA wx (slH (Nat.le_of_lt D0))))))))))))))) ?_;refine WE.con (ky H4 _ (gs.take i) x.1 htk4 htl) fun w H5 g5 hw=>?_;subst hw;have g5':=g4'.gr g5;have M5:id<H5.nx:=zA0 O2 g5.nx;have C8:rowOf (H5.get id) g=some cells:=by rw[g5.get _ O2 zB2];exact G6
     by_cases U6:0≤bp 0 (gs.take i) x.1
     ·have cge:(0≤bp 0 (gs.take i) x.1)=True:=eq_true U6;rw[zB0 U6] at hr;refine qS (qA ad (qA B0 cge)) ?_;refine hK _ _ ?_;clear hK K;refine qY ?_;refine qW B0 ?_;exact q4 _ _ (k4 _ _ (fin 50 _ _ qp (qd C0) g5' (by rw[q8,←hr])))
     have cge:(0≤bp 0 (gs.take i) x.1)=False:=eq_false U6;rw[zB1 U6] at hr;refine qS (qA ad (qA B0 cge)) ?_;refine hK _ _ ?_;clear hK K;refine qY ?_;refine R1.aT ?_;have hp5:RBk H5 (.o (.ptr kb 0 0 2)) ls:=hp.gr g5';refine qG (qA ad (qA t0 (qA t1 (qA t5 (qA B0 (qA bI (qA cu (qA aO (qA (ixC D0) (qA M5 (qA C8 (qA K0.f2 (qA K0.le2 xp))))))))))))) fun K hK=>?_;refine WE.con (tq H5 _ ls x.2.1 hp5 hL hL2) fun w H6 g6 ⟨c,hw,ha,W0⟩=>?_;subst hw;have g6':=g5'.gr g6;refine qS (qA ad (qA B0 (qA dX (qA fW W0)))) ?_;refine hK _ _ ?_;clear hK K;have g7:Gr H6 ((H6.new (.arr [.o (.str []),.o .nilS] 97 0 0)).mod H6.nx (.arr c 97 0 0)):=((Fr.refl _).new _).mod _ (.inl (zA1 _));have g57:Gr H5 ((H6.new (.arr [.o (.str []),.o .nilS] 97 0 0)).mod H6.nx (.arr c 97 0 0)):=g6.gr g7;have g7':=g6'.gr g7;generalize ((H6.new (.arr [.o (.str []),.o .nilS] 97 0 0)).mod H6.nx (.arr c 97 0 0))=H7 at g57 g7' ⊢;have hid7:id<H7.nx:=zA0 M5 g57.nx;have hgr7:rowOf (H7.get id) g=some cells:=by rw[g57.get _ M5 zB2];exact C8
     refine qW (qA ad B0) ?_;refine qE fun Kx Ky hx hy=>?_;refine cY (fun hd=>hx ?_) (fun hd=>hy ?_)
     ·clear hx hy Kx Ky;have Z0:fT (some ls) x.2.1≠0:=by simpa using hd
      rw[zB0 Z0] at hr;refine qW B0 ?_;exact q4 _ _ (k4 _ _ (fin 4 _ _ qp (qd C0) g7' (by rw[q8,←hr])))
     clear hx hy Kx Ky;have hz:fT (some ls) x.2.1=0:=by simpa using hd
     rw[zB1 (fun h=>h hz)] at hr;have hv7:SlG H7 (.o (.sl id g off gs.length 3)) gs:=hv.gr g7';have hu7:SlS H7 u x.2.2:=((K0.of.gr g4).gr g5).gr g57;have htk7:=SlR.take hv7 (n:=i) (by omega);refine R1.aT ?_;refine qG (qA ad (qA t1 (qA t5 (qA B0 (qA nF (qA bI (qA (ixC D0) (qA hid7 (qA hgr7 (qA K0.all (qA K0.le (qA (slH (Nat.le_of_lt D0)) EH)))))))))))) fun K hK=>?_;refine WE.con (Da H7 _ (gs.take i) x u htk7 hu7 htl (hB x G0)) fun w H8 g8 hw=>?_;subst hw;have g8':=g7'.gr g8;refine qS (qA ad B0) ?_;refine hK _ _ ?_;clear hK K;cases hgt:oL (gs.take i) x with
     | false=>
      rw[zB0 hgt] at hr;refine qY ?_;refine qW B0 ?_;exact q4 _ _ (k4 _ _ (fin 50 _ _ qp (qd C0) g8' (by rw[q8,←hr])))
     | true=>
      rw[zB1 (by rw[hgt];decide),←B1] at hr;refine qY ?_;refine qW B0 ?_;refine q1 _ _ ?_;refine qW (qA B0 (qA t5 V0)) ?_;refine ⟨gs.length - (i+1),by omega,i+1,rfl,D0,g8',hr,?_,?_,?_,?_,?_⟩
      ·simp only[aa,Nat.reduceEqDiff,reduceIte,t0]
      ·simp only[aa,Nat.reduceEqDiff,reduceIte,t1]
      ·simp only[aa,Nat.reduceEqDiff,reduceIte]
      ·simp only[aw,B0]
      simp only[aj,C0]
   clear hx hy Kx Ky;have C2:i=gs.length:=by omega
   rw[C2,List.drop_length,goG] at hr;refine qW B0 ?_;refine k2 _ _ ?_;refine qW B0 ?_;exact fin 0 _ _ qp (qd C0) g2 (by rw[q8,←hr])
  simp only[aa,Nat.reduceEqDiff,reduceIte,aw,aj,h0,h1,and_self,true_and];exact ⟨rfl,trivial⟩
theorem RT:ak Tryz.prog 7=true:=by kernel_rfl
theorem MY:∀ (acc ls:List Lad),qz acc ls=0→∀ x∈ls,bE x.1 x.2=0
 | _,[],_=>fun _ h=>absurd h (List.not_mem_nil)
 | acc,y::ls,h=>by
  rw[qz] at h;by_cases hc:bE y.1 y.2≠0
  ·rw[zB0 hc] at h;exact absurd h hc
  rw[zB1 hc] at h;by_cases hi:(gV 0 acc y.1).isSome=true
  ·rw[zB0 hi] at h;cases h
  rw[zB1 hi] at h;intro x hx;rcases List.mem_cons.1 hx with rfl|hx
  ·exact Classical.not_not.1 hc
  exact MY _ ls h x hx
theorem Uq {ls:List Lad} (h:nj ls=0):ls.length≤32∧∀ x∈ls,x.2.length≤12:=by
 unfold nj at h;by_cases hc:(32:Int)<ls.length
 ·rw[zB0 hc] at h;cases h
 rw[zB1 hc] at h;exact ⟨by omega,fun x hx=>iZ (MY [] ls h x hx)⟩
def bkO (ls:List Lad):Option (List Lad):=if nj ls=0 then some ls else none
theorem Tz {ls l:List Lad} (h:bkO ls=some l):l.length≤32∧∀ x∈l,x.2.length≤12:=by
 unfold bkO at h;by_cases hc:nj ls=0
 ·rw[zB0 hc] at h;cases h;exact Uq hc
 rw[zB1 hc] at h;cases h
theorem ql.same {H H':Hp} {p:AC} {o:Option (List Lad)} (ht:H'.t=H.t) (hn:H'.nx=H.nx) (h:ql H p o):ql H' p o:=by
 obtain ⟨t,nx,l⟩:=H;obtain ⟨t',nx',l'⟩:=H';cases ht;cases hn
 cases o <;> exact h
theorem ql.gr {H H':Hp} {p:AC} {o:Option (List Lad)} (h:ql H p o) (hg:Gr H H'):ql H' p o:=by
 cases o with
 | some ls=>exact RBk.gr h hg
 | none=>exact h
theorem NT (H:Hp) (v:AC) (ls:List Lad) (hl:fL H v ls):
  Con E2 7 [.one v] H (fun _=>False) fun r H'=>∃ p q,r=.tup [(false,[p]),(false,[q])]∧cU H' p (bkO ls)∧ql H' q (bkO ls)∧(bkO ls=none→p=.o .nilP):=by
 refine Con.of rfl fun lg=>?_;have hl:fL ⟨H.t,H.nx,lg⟩ v ls:=hl;generalize (⟨H.t,H.nx,lg⟩:Hp)=H at hl ⊢;refine C1.body (E:=E2) (nt:=20) (res:=[.tmp 2,.tmp 3]) Tryz.func7 rfl rfl rfl rfl rfl fun tm A0=>?_;have h0:=A0 0 _ rfl;clear A0;refine qW ad ?_;refine qG (qA ad (qA h0 JB)) fun K hK=>?_;refine WE.con (DG H v ls hl) fun w H1 g1 ⟨p,hw,J4,E4⟩=>?_;subst hw;refine qT ?_;refine hK _ _ ?_;clear hK K;refine qG (qA ad (qA h0 VR)) fun K hK=>?_;refine WE.con (Uo H1 v ls (hl.gr g1)) fun w H2 g2 ⟨q,hw,u7,W1⟩=>?_;subst hw;refine qT ?_;refine hK _ _ ?_;clear hK K;refine qV ?_;refine ⟨_,_,aQ p q (.inr rfl) rfl qp qp,g1.gr g2,fun _=>⟨p,q,rfl,?_,?_,?_⟩⟩
 ·refine cU.same (H:=H2) rfl rfl ?_;unfold bkO;by_cases hc:nj ls=0
  ·rw[zB0 hc];exact (J4 hc).gr g2
  rw[zB1 hc];exact .inl (E4 hc)
 ·refine ql.same (H:=H2) rfl rfl ?_;unfold bkO;by_cases hc:nj ls=0
  ·rw[zB0 hc];exact u7 hc
  rw[zB1 hc];exact W1 hc
 unfold bkO;by_cases hc:nj ls=0
 ·rw[zB0 hc];intro h;cases h
 exact fun _=>E4 hc
open Go Go.Eng Go.ChangeShapes Go.WideShapes
abbrev WS:=fJ wS (Dl .i64)
abbrev Dm:=xO Tryz.prog 165 2 WS
abbrev YH:=fJ wS Dm
abbrev LF:=xO Tryz.prog 97 2 YH
abbrev Dj:=xO Tryz.prog 9 1 wS
abbrev Wu:=fJ wS (fJ wS Dj)
abbrev BI:=xO Tryz.prog 104 3 Wu
theorem yy:jP Dm:=nQ (ct ck eL)
theorem yw:jP Dj:=nQ ck
theorem SS {W:World}:Opn Tryz.prog W 2 WS 165:=ef Tryz.underlying165 (by kernel_rfl) rfl (bZ (gN Tryz.underlying9) ck (gb (lE Tryz.underlying3)))
theorem OY {W:World} (hB:ni W):Opn Tryz.prog W 1 Dm 95:=gM Tryz.underlying95 (by kernel_rfl) (by decide) (ct ck eL) hB SS
theorem Ut {W:World} (hB:ni W):Opn Tryz.prog W 2 YH 97:=ef Tryz.underlying97 (by kernel_rfl) rfl (bZ (gN Tryz.underlying9) ck (gb (OY hB)))
theorem Sg {W:World} (hB:ni W):Opn Tryz.prog W 1 LF 22:=gM Tryz.underlying22 (by kernel_rfl) (by decide) (ct ck yy) hB (Ut hB)
theorem OL {W:World} (hB:ni W):Opn Tryz.prog W 1 Dj 102:=gM Tryz.underlying102 (by kernel_rfl) (by decide) ck hB (gN Tryz.underlying9)
theorem PM {W:World} (hB:ni W):Opn Tryz.prog W 3 Wu 104:=ef Tryz.underlying104 (by kernel_rfl) rfl (bZ (gN Tryz.underlying9) ck (bZ (gN Tryz.underlying9) ck (gb (OL hB))))
theorem Pv {W:World} (hB:ni W):Opn Tryz.prog W 1 BI 23:=gM Tryz.underlying23 (by kernel_rfl) (by decide) (ct ck (ct ck yw)) hB (PM hB)
theorem Fb:Tryz.prog.bytesOf 9=16:=by kernel_rfl
theorem BA:Tryz.prog.bytesOf 104=56:=by kernel_rfl
theorem Gu:Tryz.prog.bytesOf 97=40:=by kernel_rfl
theorem Tf {B:Nat} {H:Hp} {c:List AC} {us:List Pr} (h:Dm B H c us):∃ u,c=[u]∧SlP H u us:=by
 obtain ⟨u,rfl,⟨css,h1,h2⟩,_⟩:=h;refine ⟨u,rfl,?_⟩;have:=rF (f:=prC) (h2.mono fun c x ⟨_,c1,c2,e,a,b⟩=>by rw[e,a.1,b.1];rfl);rw[this] at h1;exact h1
theorem HZ {B:Nat} {H:Hp} {c:List AC} {us:List (List UInt8)} (h:Dj B H c us):∃ u,c=[u]∧SlS H u us∧us.length*16≤B:=by
 obtain ⟨u,rfl,⟨css,h1,h2⟩,h3⟩:=h;refine ⟨u,rfl,?_,by rwa [Fb] at h3⟩;have:=rF (f:=Ur) (h2.mono fun c x ⟨_,e,_⟩=>e);rw[this] at h1;exact h1
theorem UP {B:Nat} {H:Hp} {u:AC} {ls:List Lad} (h:LF B H [u] ls):fL H u ls∧ls.length*40≤B:=by
 obtain ⟨u,e,⟨css,h1,h2⟩,h3⟩:=h;cases e
 refine ⟨⟨css,h1,h2.mono fun c x ⟨hl,c1,c2,e,a,b⟩=>⟨hl,?_⟩⟩,by rwa [Gu] at h3⟩;obtain ⟨u,rfl,hu⟩:=Tf b;exact ⟨u,by rw[e,a.1];rfl,hu⟩
theorem Hq {B:Nat} {H:Hp} {u:AC} {gs:List Gd} (h:BI B H [u] gs):SlG H u gs∧gs.length*56≤B∧∀ x∈gs,x.2.2.length*16≤B:=by
 obtain ⟨u,e,⟨css,h1,h2⟩,h3⟩:=h;cases e
 refine ⟨⟨css,h1,h2.mono fun c x ⟨hl,c1,c2,e,a,c3,c4,e2,b,d⟩=>⟨hl,?_⟩⟩,by rwa [BA] at h3,Al.all (fun c x ⟨hl,c1,c2,e,a,c3,c4,e2,b,d⟩=>?_) h2⟩
 ·obtain ⟨u,rfl,hu,_⟩:=HZ d;exact ⟨u,by rw[e,a.1,e2,b.1];rfl,hu⟩
 obtain ⟨u,rfl,_,hu⟩:=HZ d;exact hu
open Go.ChangeShapes Go.WideShapes Go.ChangeAt Go.RowKit Go.Eng
theorem oz {H:Type} {enc:TypeId×Value→H} {P:Program} (hl:laidOutB P=true) {W W':World} (hb:Below W.heap.size W W') {sp:Nat→Bool}:∀ {ts:List TypeId} {vs:List Value} {ds:List (DataW H)} {ps:List MemPlace},(∀ t∈ts,P.readableRec t=true∧t<P.types.size) →
  DataW.TrodAll enc P W 0 (fun _=>true) true ts vs ds ps→(∀ p∈ps,p.block<W.heap.size)→(∀ p∈ps,sp p.block=true)→DataW.TrodAll enc P W' 0 sp true ts vs ds ps
 | [],vs,ds,ps,_,h,_,_=>by
  obtain ⟨rfl,rfl,rfl⟩:=trodAll_nil h;exact trodAll_mk0
 | t::ts,vs,ds,ps,hr,h,D0,hsp=>by
  obtain ⟨v,vs1,d,ds1,a,b,rfl,rfl,rfl,h1,h2⟩:=trodAll_cons h;refine ⟨a,b,?_,oz hl hb (fun t ht=>hr t (List.mem_cons_of_mem _ ht)) h2 (fun p hp=>D0 p (List.mem_append_right _ hp)) (fun p hp=>hsp p (List.mem_append_right _ hp)),rfl⟩;exact WideElems.Trod_stays hl (hr t (List.mem_cons_self ..)).1 (hr t (List.mem_cons_self ..)).2 h1 (fun x hx=>hb.same (D0 x (List.mem_append_left _ hx))) (fun x hx=>hsp x (List.mem_append_left _ hx))
theorem Tryz.laidOut:laidOutB Tryz.prog=true:=by kernel_rfl
theorem Rn:reachBytes≤140737488355328:=by decide
theorem jZ:loadT Tryz.prog 37=some (true,2):=by kernel_rfl
theorem yN:aU Tryz.prog 37=some 2:=by kernel_rfl
theorem yR:(ax Tryz.prog 37).map (fun z=>(ofValue z).cells)=some [.o .nilS,.o .nilS]:=by kernel_rfl
theorem AK:aS Tryz.prog 37=4:=by kernel_rfl
theorem gS:aJ Tryz.prog 37 0=some (0,34,1):=by kernel_rfl
theorem gT:aJ Tryz.prog 37 1=some (1,35,1):=by kernel_rfl
def rT:Nat→Option (Nat×Nat):=fun i=>(#[(0,1),(1,1)]:Array (Nat×Nat))[i]?
theorem Bc:cH Tryz.prog 37=some rT:=by kernel_rfl
theorem sT:rT 0=some (0,1):=rfl
theorem sN:rT 1=some (1,1):=rfl
theorem ng:loadT Tryz.prog 34=some (false,1):=by kernel_rfl
theorem Il:aU Tryz.prog 34=some 1:=by kernel_rfl
theorem Hk:(ax Tryz.prog 34).map (fun z=>(ofValue z).cells)=some [.o .nilS]:=by kernel_rfl
theorem mZ:ba Tryz.prog 34=some (84,5):=by kernel_rfl
theorem qM:eT Tryz.prog 34=some 1:=by kernel_rfl
theorem DA:aS Tryz.prog 34=1:=by kernel_rfl
theorem CJ:loadT Tryz.prog 84=some (true,5):=by kernel_rfl
theorem CA:aU Tryz.prog 84=some 5:=by kernel_rfl
theorem Nw:bW Tryz.prog 84=some 88:=by kernel_rfl
theorem uk:(ax Tryz.prog 84).map (fun z=>(ofValue z).cells)=some [.i .i64 0,.o (.str []),.o (.str []),.o .nilS,.o .nilS]:=by kernel_rfl
theorem Md:∃ z,ax Tryz.prog 84=some z∧(ofValue z).cells.length=5:=by
 have h:=uk;cases hz:ax Tryz.prog 84 with
 | none=>rw[hz] at h;cases h
 | some z=>
  rw[hz] at h;exact ⟨z,rfl,by have:(ofValue z).cells=_:=Option.some.inj h;rw[this];rfl⟩
theorem La:aS Tryz.prog 84=4:=by kernel_rfl
theorem sJ:aJ Tryz.prog 84 0=some (0,3,1):=by kernel_rfl
theorem rN:aJ Tryz.prog 84 1=some (1,9,1):=by kernel_rfl
theorem nX:aJ Tryz.prog 84 2=some (2,9,1):=by kernel_rfl
theorem oh:aJ Tryz.prog 84 3=some (3,66,2):=by kernel_rfl
def pV:Nat→Option (Nat×Nat):=fun i=>(#[(0,1),(1,1),(2,1),(3,2)]:Array (Nat×Nat))[i]?
theorem KG:cH Tryz.prog 84=some pV:=by kernel_rfl
theorem zB:pV 0=some (0,1):=rfl
theorem yZ:pV 1=some (1,1):=rfl
theorem zc:pV 2=some (2,1):=rfl
theorem zg:pV 3=some (3,2):=rfl
theorem mH:loadT Tryz.prog 35=some (false,1):=by kernel_rfl
theorem Fm:aU Tryz.prog 35=some 1:=by kernel_rfl
theorem DM:(ax Tryz.prog 35).map (fun z=>(ofValue z).cells)=some [.o .nilS]:=by kernel_rfl
theorem lZ:ba Tryz.prog 35=some (86,2):=by kernel_rfl
theorem qc:eT Tryz.prog 35=some 1:=by kernel_rfl
theorem FH:aS Tryz.prog 35=1:=by kernel_rfl
theorem Ns:loadT Tryz.prog 86=some (true,2):=by kernel_rfl
theorem MB:aU Tryz.prog 86=some 2:=by kernel_rfl
theorem Lp:bW Tryz.prog 86=some 32:=by kernel_rfl
theorem Cx:(ax Tryz.prog 86).map (fun z=>(ofValue z).cells)=some [.i .i64 0,.o .nilS]:=by kernel_rfl
theorem Nn:∃ z,ax Tryz.prog 86=some z∧(ofValue z).cells.length=2:=by
 have h:=Cx;cases hz:ax Tryz.prog 86 with
 | none=>rw[hz] at h;cases h
 | some z=>
  rw[hz] at h;exact ⟨z,rfl,by have:(ofValue z).cells=_:=Option.some.inj h;rw[this];rfl⟩
theorem Nv:aS Tryz.prog 86=4:=by kernel_rfl
theorem rZ:aJ Tryz.prog 86 0=some (0,3,1):=by kernel_rfl
theorem sb:aJ Tryz.prog 86 1=some (1,57,1):=by kernel_rfl
def BE:Nat→Option (Nat×Nat):=fun i=>(#[(0,1),(1,1)]:Array (Nat×Nat))[i]?
theorem LO:cH Tryz.prog 86=some BE:=by kernel_rfl
theorem yF:BE 0=some (0,1):=rfl
theorem AS:BE 1=some (1,1):=rfl
theorem mD:loadT Tryz.prog 66=some (true,2):=by kernel_rfl
theorem CW:aU Tryz.prog 66=some 2:=by kernel_rfl
theorem wO:(ax Tryz.prog 66).map (fun z=>(ofValue z).cells)=some [.o .nilS,.o .nilS]:=by kernel_rfl
theorem PN:aS Tryz.prog 66=4:=by kernel_rfl
theorem bm:aJ Tryz.prog 66 0=some (0,64,1):=by kernel_rfl
theorem cm:aJ Tryz.prog 66 1=some (1,64,1):=by kernel_rfl
def Ko:Nat→Option (Nat×Nat):=fun i=>(#[(0,1),(1,1)]:Array (Nat×Nat))[i]?
theorem Co:cH Tryz.prog 66=some Ko:=by kernel_rfl
theorem rk:Ko 0=some (0,1):=rfl
theorem qb:Ko 1=some (1,1):=rfl
theorem bq:loadT Tryz.prog 64=some (false,1):=by kernel_rfl
theorem KT:aU Tryz.prog 64=some 1:=by kernel_rfl
theorem Mx:(ax Tryz.prog 64).map (fun z=>(ofValue z).cells)=some [.o .nilS]:=by kernel_rfl
theorem cB:ba Tryz.prog 64=some (181,3):=by kernel_rfl
theorem bM:eT Tryz.prog 64=some 1:=by kernel_rfl
theorem tX:aS Tryz.prog 64=1:=by kernel_rfl
theorem dh:loadT Tryz.prog 181=some (true,3):=by kernel_rfl
theorem pb:aU Tryz.prog 181=some 3:=by kernel_rfl
theorem Kp:bW Tryz.prog 181=some 32:=by kernel_rfl
theorem jO:(ax Tryz.prog 181).map (fun z=>(ofValue z).cells)=some [.i .i64 0,.o (.str []),.b false]:=by kernel_rfl
theorem PL:∃ z,ax Tryz.prog 181=some z∧(ofValue z).cells.length=3:=by
 have h:=jO;cases hz:ax Tryz.prog 181 with
 | none=>rw[hz] at h;cases h
 | some z=>
  rw[hz] at h;exact ⟨z,rfl,by have:(ofValue z).cells=_:=Option.some.inj h;rw[this];rfl⟩
theorem Qh:aS Tryz.prog 181=4:=by kernel_rfl
theorem eh:aJ Tryz.prog 181 0=some (0,3,1):=by kernel_rfl
theorem eU:aJ Tryz.prog 181 1=some (1,9,1):=by kernel_rfl
theorem gR:aJ Tryz.prog 181 2=some (2,4,1):=by kernel_rfl
def Dk:Nat→Option (Nat×Nat):=fun i=>(#[(0,1),(1,1),(2,1)]:Array (Nat×Nat))[i]?
theorem BZ:cH Tryz.prog 181=some Dk:=by kernel_rfl
theorem Es:Dk 0=some (0,1):=rfl
theorem HX:Dk 1=some (1,1):=rfl
theorem Hx:Dk 2=some (2,1):=rfl
theorem EX:loadT Tryz.prog 238=some (false,1):=by kernel_rfl
theorem FY:aU Tryz.prog 238=some 1:=by kernel_rfl
theorem DB:(ax Tryz.prog 238).map (fun z=>(ofValue z).cells)=some [.o .nilS]:=by kernel_rfl
theorem Fk:ba Tryz.prog 238=some (4,1):=by kernel_rfl
theorem DY:eT Tryz.prog 238=some 1:=by kernel_rfl
theorem FJ:aS Tryz.prog 238=1:=by kernel_rfl
theorem Js:eqK Tryz.prog 181=some [.i,.s,.b]:=by kernel_rfl
theorem wi:ak Tryz.prog 118=true:=by kernel_rfl
theorem jA:ak Tryz.prog 157=true:=by kernel_rfl
theorem yG:ak Tryz.prog 66=true:=by kernel_rfl
theorem we:ak Tryz.prog 89=true:=by kernel_rfl
theorem oB:ak Tryz.prog 117=true:=by kernel_rfl
theorem wm:ak Tryz.prog 156=true:=by kernel_rfl
theorem Xf:ak Tryz.prog 184=true:=by kernel_rfl
theorem tk:ak Tryz.prog 65=true:=by kernel_rfl
theorem pS:ak Tryz.prog 88=true:=by kernel_rfl
abbrev Gp:=Int×List UInt8×Bool
def gpC (x:Gp):List AC:=[.i .i64 x.1,.o (.str x.2.1),.b x.2.2]
theorem bY (x:Gp):gpC x=[.i .i64 x.1,.o (.str x.2.1),.b x.2.2]:=by unfold gpC;rfl
theorem tP (x:Gp):(gpC x).length=3:=rfl
def aM (H:Hp) (v:AC) (l:List Gp):Prop:=SlC H v 3 l.length (l.flatMap gpC)
theorem aM.gr {H H':Hp} {v:AC} {l:List Gp} (h:aM H v l) (hg:Gr H H'):aM H' v l:=SlC.gr h hg
theorem aM.len {H:Hp} {v:AC} {l:List Gp} (h:aM H v l):cQ H 1 (.one v)=.val (.one (.i .i64 (l.length:Int))) H:=SlC.len h
theorem aM.lt {H:Hp} {v:AC} {l:List Gp} (h:aM H v l):ltV (.one v) H.nx:=kY h
theorem aM.nil {H:Hp}:aM H (.o .nilS) []:=⟨by simp,.inl ⟨rfl,rfl⟩⟩
structure GpAt (cells:List AC) (o:Nat) (x:Gp):Prop where
 all:(cells.drop o).take 3=gpC x
 le:o+3≤cells.length
 le1:o+1≤cells.length
 le2:o+1+1≤cells.length
 le3:o+2+1≤cells.length
 f1:(cells.drop o).headD (.b false)=.i .i64 x.1
 f2:(cells.drop (o+1)).headD (.b false)=.o (.str x.2.1)
 f3:(cells.drop (o+2)).headD (.b false)=.b x.2.2
theorem aM.open {H:Hp} {v:AC} {l:List Gp} (h:aM H v l) (hn:0<l.length):∃ id g off cells,v=.o (.sl id g off l.length 3)∧id<H.nx∧rowOf (H.get id) g=some cells∧∀ (i:Nat) (x:Gp),l[i]?=some x→GpAt cells (off+i*3) x:=by
 obtain ⟨id,g,off,h1,h2,hr⟩:=SlC.pos h hn;have E3:=hr;obtain ⟨cells,h3,h6,h7⟩:=hr;refine ⟨id,g,off,cells,h1,h2,h3,fun i x hx=>?_⟩;obtain ⟨cells',k3,k6,k7⟩:=Rd.at (c:=gpC) tP E3 hx;rw[h3] at k3;cases k3
 obtain ⟨a,b,c⟩:=Xa k7;exact ⟨k7,k6,by omega,by omega,by omega,a,b,c⟩
theorem aM.take {H:Hp} {id g off:Nat} {l:List Gp} (h:aM H (.o (.sl id g off l.length 3)) l) {n:Nat} (hn:n≤l.length):aM H (.o (.sl id g off n 3)) (l.take n):=by
 have hl:(l.take n).length=n:=by rw[List.length_take];omega
 refine ⟨by rw[cj tP],?_⟩;rcases h.2 with ⟨e,_⟩|⟨id',g',off',e,hid,hr⟩
 ·cases e
 cases e
 refine .inr ⟨id,g,off,by rw[hl],hid,?_⟩;have:=hr.part 0 (n*3) (by omega);rw[List.drop_zero,Nat.add_zero] at this;rw[hl];have e:(l.take n).flatMap gpC=(l.flatMap gpC).take (n*3):=by
  have h1:l.flatMap gpC=(l.take n).flatMap gpC++(l.drop n).flatMap gpC:=by rw[←List.flatMap_append,List.take_append_drop]
  exact ((congrArg (List.take (n*3)) h1).trans (by rw[List.take_append_of_le_length (by rw[cj tP,hl];exact zA1 _),List.take_of_length_le (by rw[cj tP,hl];exact zA1 _)])).symm
 rw[e];exact this
def lT (x:Gp):Bool:=x.1==0&&(x.2.1==[]&&(x.2.2==false&&true))
def kg (l:List Gp):Bool:=l.any fun x=>lT x||x.2.2
theorem rm (H:Hp) (x:Gp):Con E2 118 [.agg (gpC x)] H (fun _=>False) fun r _=>r=.one (.b (lT x)):=by
 refine Con.of rfl fun lg=>?_;generalize (⟨H.t,H.nx,lg⟩:Hp)=H;refine C1.body (E:=E2) (nt:=6) (res:=[.tmp 2]) Tryz.func118 rfl rfl rfl rfl rfl fun tm A0=>?_;have h0:=A0 0 _ rfl;clear A0;repeat' first|refine R1.ret ?_|refine R1.exit ?_|refine R1.skip ?_|refine R1.pO ?_|refine R1.lC ?_|refine R1.aE ?_|refine R1.aT ?_|refine R1.iG ?_|((first|refine R1.GR fun K hK=>?_|refine R1.ow fun K hK=>?_|refine R1.JN (by kernel_rfl) fun K hK=>?_|refine R1.EC (by kernel_rfl) fun K hK=>?_);simp only[qB,aC,Nat.reduceLT,Nat.reduceAdd,ad,h0,gpC,dh,jO,BZ,AE Js];refine hK _ _ ?_;clear hK K)
 exact ⟨_,_,ah (.b (lT x)) (.inr rfl) rfl (by simp only[aa,Nat.reduceEqDiff,reduceIte,lT,id_eq]),(Fr.refl _).new _,fun _=>rfl⟩
theorem hG (H:Hp) (x:Gp):Con E2 157 [.agg (gpC x)] H (fun _=>False) fun r _=>r=.one (.b (lT x)):=by
 refine Con.of rfl fun lg=>?_;generalize (⟨H.t,H.nx,lg⟩:Hp)=H;refine C1.body (E:=E2) (nt:=6) (res:=[.tmp 2]) Tryz.func157 rfl rfl rfl rfl rfl fun tm A0=>?_;have h0:=A0 0 _ rfl;clear A0;repeat' first|refine R1.ret ?_|refine R1.exit ?_|refine R1.skip ?_|refine R1.pO ?_|refine R1.lC ?_|refine R1.aE ?_|refine R1.aT ?_|refine R1.iG ?_|((first|refine R1.GR fun K hK=>?_|refine R1.ow fun K hK=>?_|refine R1.JN (by kernel_rfl) fun K hK=>?_|refine R1.EC (by kernel_rfl) fun K hK=>?_);simp only[qB,aC,Nat.reduceLT,Nat.reduceAdd,ad,h0,gpC,dh,jO,BZ,AE Js];refine hK _ _ ?_;clear hK K)
 exact ⟨_,_,ah (.b (lT x)) (.inr rfl) rfl (by simp only[aa,Nat.reduceEqDiff,reduceIte,lT,id_eq]),(Fr.refl _).new _,fun _=>rfl⟩
theorem vS (H:Hp) (v:AC) (l:List Gp) (hv:aM H v l) (hL:l.length≤1000000):
  Con E2 66 [.one v] H (fun _=>False) fun r _=>r=.one (.b (kg l)):=by
 refine Con.of rfl fun lg=>?_;have hv:aM ⟨H.t,H.nx,lg⟩ v l:=hv;generalize (⟨H.t,H.nx,lg⟩:Hp)=H at hv ⊢;refine C1.body (E:=E2) (nt:=18) (res:=[.tmp 2]) Tryz.func66 rfl rfl rfl rfl rfl fun tm A0=>?_;have h0:=A0 0 _ rfl;clear A0;have fin:∀ (b:Bool) (A:ab) (H3:Hp),slot A.tm 2=.one (.b b)→A.dfr=[]→Gr H H3→b=kg l→∃ w H4,an E2 [.tmp 2] (.ret,A,H3)=.ok [(w,H4)]∧Gr H H4∧∀ _:List Nat,w=.one (.b (kg l)):=fun b A H3 h1 h2 h3 h4=>⟨_,H3,ah (.b b) (.inr rfl) h2 h1,h3,fun _=>by rw[h4]⟩;generalize E0:kg l=r0 at fin;refine qW (qA ad (qA h0 (qA bM (qA hv.len hv.lt)))) ?_;refine R1.aG fun K k1 k2 k3 k4=>?_;refine R1.loop (fun k A H1=>∃ i:Nat,k=l.length - i∧i≤l.length∧Gr H H1∧kg (l.drop i)=r0∧slot A.tm 5=.one v∧slot A.tm 6=.one (.i .i64 (l.length:Int))∧slot A.tm 7=.one (.i .i64 (i:Int))∧A.nt=18∧A.dfr=[]) ?_ l.length
  ⟨0,rfl,Nat.zero_le _,Fr.refl _,E0,?_⟩
 ·clear h0 tm;rintro k A H1 ⟨i,rfl,hi,g1,hr,t5,t6,t7,B0,C0⟩;have B2:=hv.gr g1;refine qW (qA ad (qA t6 (qA t7 B0))) ?_;refine qE fun Kx Ky hx hy=>?_;refine cY (fun hc=>hx ?_) (fun hc=>hy ?_)
  ·clear hx hy Kx Ky;have D0:i<l.length:=by omega
   obtain ⟨id,g,off,cells,rfl,hid,P0,L0⟩:=B2.open (by omega);have ex:=zB4 D0;have Q0:=zC1 D0;generalize l[i]=x at ex Q0;have K0:=L0 i x ex;have V0:=zC0 i (by omega);rw[Q0,kg,List.any_cons] at hr;refine qV ?_;refine R1.aG fun K2 q1 q2 q3 q4=>?_;refine qG (qA ad (qA t5 (qA t7 (qA B0 (qA cB (qA dh (qA pb (qA jO (qA (ixC D0) (qA hid (qA P0 (qA K0.all (qA K0.le bY))))))))))))) fun K hK=>?_;refine hK _ _ ?_;clear hK K;refine R1.gen (fun A3 H3=>Gr H1 H3∧H1.nx<H3.nx∧H3.get H1.nx=some (.arr (gpC x) 181 0 0)∧slot A3.tm 4=.one (.o (.ptr H1.nx 0 0 3))∧slot A3.tm 5=.one (.o (.sl id g off l.length 3))∧slot A3.tm 6=.one (.i .i64 (l.length:Int))∧slot A3.tm 7=.one (.i .i64 (i:Int))∧A3.nt=18∧A3.dfr=[])
    ⟨((Fr.refl _).new _).mod _ (.inl (zA1 _)),?_⟩ ?_
   ·exact qZ (qA t5 (qA t6 (qA t7 (qA B0 (qA C0 bY)))))
   clear t5 t6 t7 B0 C0 A;rintro A H3 ⟨g3,n3,rx,t4,t5,t6,t7,B0,C0⟩;refine qG (qA ad (qA t4 (qA B0 (qA rx (qA n3 (qA dh (qA bY wi))))))) fun K hK=>?_;refine WE.con (rm H3 x) fun w H4 g4 hw=>?_;subst hw;have rx:H4.get H1.nx=some (.arr (gpC x) 181 0 0):=by rw[g4.get _ n3 zB2];exact rx
   have n4:H1.nx<H4.nx:=zA0 n3 g4.nx;have g4':=g1.gr (g3.gr g4);cases N7:lT x with
   | true=>
    rw[N7,Bool.true_or,Bool.true_or] at hr;refine qS (qA ad B0) ?_;refine hK _ _ ?_;clear hK K;refine qY ?_;refine qW B0 ?_;exact q4 _ _ (k4 _ _ (fin true _ _ qp (qd C0) g4' hr))
   | false=>
    rw[N7,Bool.false_or] at hr;refine qS (qA ad (qA B0 (qA t4 (qA rx (qA n4 (qA bY (qA gR jx))))))) ?_;refine hK _ _ ?_;clear hK K;cases u9:x.2.2 with
    | true=>
     rw[u9,Bool.true_or] at hr;refine qY ?_;refine qW B0 ?_;exact q4 _ _ (k4 _ _ (fin true _ _ qp (qd C0) g4' hr))
    | false=>
     rw[u9,Bool.false_or] at hr;refine qY ?_;refine qW B0 ?_;refine q1 _ _ ?_;refine qW (qA B0 (qA t7 V0)) ?_;refine ⟨l.length - (i+1),by omega,i+1,rfl,D0,g4',hr,?_,?_,?_,?_,?_⟩
     ·simp only[aa,Nat.reduceEqDiff,reduceIte,t5]
     ·simp only[aa,Nat.reduceEqDiff,reduceIte,t6]
     ·simp only[aa,Nat.reduceEqDiff,reduceIte]
     ·simp only[aw,B0]
     simp only[aj,C0]
  clear hx hy Kx Ky;have C2:i=l.length:=by omega
  rw[C2,List.drop_length] at hr;refine qW B0 ?_;refine k2 _ _ ?_;refine qW B0 ?_;exact fin false _ _ qp (qd C0) g1 hr
 simp only[aa,Nat.reduceEqDiff,reduceIte,aw,aj,and_self,true_and];exact ⟨rfl,trivial⟩
theorem tE (H:Hp) (v:AC) (l:List Gp) (hv:aM H v l) (hL:l.length≤1000000):
  Con E2 89 [.one v] H (fun _=>False) fun r _=>r=.one (.b (kg l)):=by
 refine Con.of rfl fun lg=>?_;have hv:aM ⟨H.t,H.nx,lg⟩ v l:=hv;generalize (⟨H.t,H.nx,lg⟩:Hp)=H at hv ⊢;refine C1.body (E:=E2) (nt:=22) (res:=[.tmp 2]) Tryz.func89 rfl rfl rfl rfl rfl fun tm A0=>?_;have h0:=A0 0 _ rfl;clear A0;have fin:∀ (b:Bool) (A:ab) (H3:Hp),slot A.tm 2=.one (.b b)→A.dfr=[]→Gr H H3→b=kg l→∃ w H4,an E2 [.tmp 2] (.ret,A,H3)=.ok [(w,H4)]∧Gr H H4∧∀ _:List Nat,w=.one (.b (kg l)):=fun b A H3 h1 h2 h3 h4=>⟨_,H3,ah (.b b) (.inr rfl) h2 h1,h3,fun _=>by rw[h4]⟩;generalize E0:kg l=r0 at fin;refine qW ad ?_;refine R1.aG fun K k1 k2 k3 k4=>?_;refine R1.loop (fun k A H1=>∃ i:Nat,k=l.length - i∧i≤l.length∧Gr H H1∧kg (l.drop i)=r0∧slot A.tm 0=.one v∧slot A.tm 3=.one (.i .i64 (i:Int))∧A.nt=22∧A.dfr=[]) ?_ l.length
  ⟨0,rfl,Nat.zero_le _,Fr.refl _,E0,?_⟩
 ·clear h0 tm;rintro k A H1 ⟨i,rfl,hi,g1,hr,t0,t3,B0,C0⟩;have B2:=hv.gr g1;refine qW (qA ad (qA t0 (qA t3 (qA B0 (qA bM (qA B2.len B2.lt)))))) ?_;refine qE fun Kx Ky hx hy=>?_;refine cY (fun hc=>hx ?_) (fun hc=>hy ?_)
  ·clear hx hy Kx Ky;have D0:i<l.length:=by omega
   obtain ⟨id,g,off,cells,rfl,hid,P0,L0⟩:=B2.open (by omega);have ex:=zB4 D0;have Q0:=zC1 D0;generalize l[i]=x at ex Q0;have K0:=L0 i x ex;have V0:=zC0 i (by omega);rw[Q0,kg,List.any_cons] at hr;refine qV ?_;refine R1.aG fun K2 q1 q2 q3 q4=>?_;refine qG (qA ad (qA t0 (qA t3 (qA B0 (qA cB (qA dh (qA (ixC D0) (qA hid (qA P0 (qA K0.all (qA K0.le jA))))))))))) fun K hK=>?_;refine WE.con (hG H1 x) fun w H4 g4 hw=>?_;subst hw;have O2:id<H4.nx:=zA0 hid g4.nx;have G6:rowOf (H4.get id) g=some cells:=by rw[g4.get _ hid zB2];exact P0
   have g4':=g1.gr g4;cases N7:lT x with
   | true=>
    rw[N7,Bool.true_or,Bool.true_or] at hr;refine qS (qA ad B0) ?_;refine hK _ _ ?_;clear hK K;refine qY ?_;refine qW B0 ?_;exact q4 _ _ (k4 _ _ (fin true _ _ qp (qd C0) g4' hr))
   | false=>
    rw[N7,Bool.false_or] at hr;refine qS (qA ad (qA B0 (qA t0 (qA t3 (qA cB (qA (ixC D0) (qA O2 (qA G6 (qA gR (qA jx (qA K0.f3 K0.le3))))))))))) ?_;refine hK _ _ ?_;clear hK K;cases u9:x.2.2 with
    | true=>
     rw[u9,Bool.true_or] at hr;refine qY ?_;refine qW B0 ?_;exact q4 _ _ (k4 _ _ (fin true _ _ qp (qd C0) g4' hr))
    | false=>
     rw[u9,Bool.false_or] at hr;refine qY ?_;refine qW B0 ?_;refine q1 _ _ ?_;refine qW (qA B0 (qA t3 V0)) ?_;refine ⟨l.length - (i+1),by omega,i+1,rfl,D0,g4',hr,?_,?_,?_,?_⟩
     ·simp only[aa,Nat.reduceEqDiff,reduceIte,t0]
     ·simp only[aa,Nat.reduceEqDiff,reduceIte]
     ·simp only[aw,B0]
     simp only[aj,C0]
  clear hx hy Kx Ky;have C2:i=l.length:=by omega
  rw[C2,List.drop_length] at hr;refine qW B0 ?_;refine k2 _ _ ?_;refine qW B0 ?_;exact fin false _ _ qp (qd C0) g1 hr
 simp only[aa,Nat.reduceEqDiff,reduceIte,aw,aj,h0,and_self,true_and];exact ⟨rfl,trivial⟩
def tH (l:List Gp) (s:List UInt8):Bool:=l.any fun x=>x.2.1==s
theorem Us (H:Hp) (v:AC) (l:List Gp) (s:List UInt8) (hv:aM H v l) (hL:l.length≤1000000):
  Con E2 184 [.one v,.one (.o (.str s))] H (fun _=>False) fun r _=>r=.one (.b (tH l s)):=by
 refine Con.of rfl fun lg=>?_;have hv:aM ⟨H.t,H.nx,lg⟩ v l:=hv;generalize (⟨H.t,H.nx,lg⟩:Hp)=H at hv ⊢;refine C1.body (E:=E2) (nt:=19) (res:=[.tmp 4]) Tryz.func184 rfl rfl rfl rfl rfl fun tm A0=>?_;have h0:=A0 0 _ rfl;have h1:=A0 1 _ rfl;clear A0;have fin:∀ (b:Bool) (A:ab) (H3:Hp),slot A.tm 4=.one (.b b)→A.dfr=[]→Gr H H3→b=tH l s→∃ w H4,an E2 [.tmp 4] (.ret,A,H3)=.ok [(w,H4)]∧Gr H H4∧∀ _:List Nat,w=.one (.b (tH l s)):=fun b A H3 h1 h2 h3 h4=>⟨_,H3,ah (.b b) (.inr rfl) h2 h1,h3,fun _=>by rw[h4]⟩;generalize E0:tH l s=r0 at fin;refine qW ad ?_;refine R1.aG fun K k1 k2 k3 k4=>?_;refine R1.loop (fun k A H1=>∃ i:Nat,k=l.length - i∧i≤l.length∧Gr H H1∧tH (l.drop i) s=r0∧slot A.tm 0=.one v∧slot A.tm 1=.one (.o (.str s))∧slot A.tm 5=.one (.i .i64 (i:Int))∧A.nt=19∧A.dfr=[]) ?_ l.length
  ⟨0,rfl,Nat.zero_le _,Fr.refl _,E0,?_⟩
 ·clear h0 h1 tm;rintro k A H1 ⟨i,rfl,hi,g1,hr,t0,t1,t5,B0,C0⟩;have B2:=hv.gr g1;refine qW (qA ad (qA t0 (qA t5 (qA B0 (qA bM (qA B2.len B2.lt)))))) ?_;refine qE fun Kx Ky hx hy=>?_;refine cY (fun hc=>hx ?_) (fun hc=>hy ?_)
  ·clear hx hy Kx Ky;have D0:i<l.length:=by omega
   obtain ⟨id,g,off,cells,rfl,hid,P0,L0⟩:=B2.open (by omega);have ex:=zB4 D0;have Q0:=zC1 D0;generalize l[i]=x at ex Q0;have K0:=L0 i x ex;have V0:=zC0 i (by omega);rw[Q0,tH,List.any_cons] at hr;refine qV ?_;refine R1.aG fun K2 q1 q2 q3 q4=>?_;by_cases R4:x.2.1=s
   ·rw[beq_iff_eq.2 R4,Bool.true_or] at hr;have cs:(x.2.1==s)=true:=beq_iff_eq.2 R4;refine qW (qA ad (qA t0 (qA t1 (qA t5 (qA B0 (qA cB (qA eU (qA aO (qA (ixC D0) (qA hid (qA P0 (qA K0.f2 (qA K0.le2 cs))))))))))))) ?_;refine qE fun Kx Ky hx hy=>?_;rw[bO,cs];refine hx ?_;clear hx hy Kx Ky;refine qW B0 ?_;exact q4 _ _ (k4 _ _ (fin true _ _ qp (qd C0) g1 hr))
   have cs:(x.2.1==s)=false:=zB5 R4;rw[cs,Bool.false_or] at hr;refine qW (qA ad (qA t0 (qA t1 (qA t5 (qA B0 (qA cB (qA eU (qA aO (qA (ixC D0) (qA hid (qA P0 (qA K0.f2 (qA K0.le2 cs))))))))))))) ?_;refine qE fun Kx Ky hx hy=>?_;rw[bO,cs];refine hy ?_;clear hx hy Kx Ky;refine qW B0 ?_;refine q1 _ _ ?_;refine qW (qA B0 (qA t5 V0)) ?_;refine ⟨l.length - (i+1),by omega,i+1,rfl,D0,g1,hr,?_,?_,?_,?_,?_⟩
   ·simp only[aa,Nat.reduceEqDiff,reduceIte,t0]
   ·simp only[aa,Nat.reduceEqDiff,reduceIte,t1]
   ·simp only[aa,Nat.reduceEqDiff,reduceIte]
   ·simp only[aw,B0]
   simp only[aj,C0]
  clear hx hy Kx Ky;have C2:i=l.length:=by omega
  rw[C2,List.drop_length] at hr;refine qW B0 ?_;refine k2 _ _ ?_;refine qW B0 ?_;exact fin false _ _ qp (qd C0) g1 hr
 simp only[aa,Nat.reduceEqDiff,reduceIte,aw,aj,h0,h1,and_self,true_and];exact ⟨rfl,trivial⟩
theorem VO {E:Env} {r:Option Nat} {z:Code} {A:ab} {H:Hp} {Q:aA→ab→Hp→Prop} {i:Nat} (h:R1 E r z A H Q):R1 E r (.seq (.label i) z) A H Q:=R1.seq ⟨0,_,_,_,rfl,h⟩
def Wd (acc:List Gp):Bool:=acc.getLast?.any lT
def de (less:Bool):List Gp→List Gp→Int
 | _,[]=>0
 | acc,x::l=>
  if lT x=true then
   if less=true then 24 else if Wd acc=true then 5 else de less (acc++[x]) l
  else if nmB x.2.1=false then 20 else if x.1<1∨(99:Int)<x.1 then 21 else if tH acc x.2.1=true then 22 else if (less&&x.2.2)=true then 24 else de less (acc++[x]) l
theorem yd {l:List Gp} {i:Nat} {y:Gp} (hi:0<i) (hy:l[i - 1]?=some y):Wd (l.take i)=lT y:=by
 have h:(l.take i).getLast?=some y:=by
  have D0:=(List.getElem?_eq_some_iff.1 hy).1;rw[List.getLast?_eq_getElem?,List.length_take,Nat.min_eq_left (by omega),List.getElem?_take,zB0 (by omega)];exact hy
 unfold Wd;rw[h];rfl
theorem mv (H:Hp) (v:AC) (l:List Gp) (less:Bool) (hv:aM H v l) (hL:l.length≤1000000):
  Con E2 117 [.one v,.one (.b less)] H (fun _=>False) fun r _=>r=.one (.i .i64 (de less [] l)):=by
 refine Con.of rfl fun lg=>?_;have hv:aM ⟨H.t,H.nx,lg⟩ v l:=hv;generalize (⟨H.t,H.nx,lg⟩:Hp)=H at hv ⊢;refine C1.body (E:=E2) (nt:=69) (res:=[.tmp 4]) Tryz.func117 rfl rfl rfl rfl rfl fun tm A0=>?_;have h0:=A0 0 _ rfl;have h1:=A0 1 _ rfl;clear A0;have fin:∀ (e:Int) (A:ab) (H3:Hp),slot A.tm 4=.one (.i .i64 e)→A.dfr=[]→Gr H H3→e=de less [] l→∃ w H4,an E2 [.tmp 4] (.ret,A,H3)=.ok [(w,H4)]∧Gr H H4∧∀ _:List Nat,w=.one (.i .i64 (de less [] l)):=fun e A H3 h1 h2 h3 h4=>⟨_,H3,ah (.i .i64 e) (.inr rfl) h2 h1,h3,fun _=>by rw[h4]⟩;generalize E0:de less [] l=r0 at fin;refine qW (qA ad (qA h0 (qA bM (qA hv.len hv.lt)))) ?_;refine R1.scope (VO ?_);refine qW (qA ad (qA h0 (qA bM (qA hv.len hv.lt)))) ?_;refine R1.aG fun K k1 k2 k3 k4=>?_;refine R1.loop (fun k A H1=>∃ i:Nat,k=l.length - i∧i≤l.length∧Gr H H1∧de less (l.take i) (l.drop i)=r0∧slot A.tm 0=.one v∧slot A.tm 1=.one (.b less)∧slot A.tm 9=.one v∧slot A.tm 10=.one (.i .i64 (l.length:Int))∧slot A.tm 11=.one (.i .i64 (i:Int))∧A.nt=69∧A.dfr=[]) ?_ l.length
  ⟨0,rfl,Nat.zero_le _,Fr.refl _,E0,?_⟩
 ·clear h0 h1 tm;rintro k A H1 ⟨i,rfl,hi,g1,hr,t0,t1,t9,t10,t11,B0,C0⟩;have B2:=hv.gr g1;refine qW (qA ad (qA t10 (qA t11 B0))) ?_;refine qE fun Kx Ky hx hy=>?_;refine cY (fun hc=>hx ?_) (fun hc=>hy ?_)
  ·clear hx hy Kx Ky;have D0:i<l.length:=by omega
   obtain ⟨id,g,off,cells,rfl,hid,P0,L0⟩:=B2.open (by omega);have ex:=zB4 D0;have Q0:=zC1 D0;have B1:=zC2 D0;generalize l[i]=x at ex Q0 B1;have K0:=L0 i x ex;have V0:=zC0 i (by omega);rw[Q0,de] at hr;refine qV ?_;refine R1.aG fun K2 q1 q2 q3 q4=>?_;refine qG (qA ad (qA t9 (qA t11 (qA B0 (qA cB (qA dh (qA pb (qA jO (qA (ixC D0) (qA hid (qA P0 (qA K0.all (qA K0.le bY))))))))))))) fun K hK=>?_;refine hK _ _ ?_;clear hK K;refine R1.gen (fun A3 H3=>Gr H1 H3∧H1.nx<H3.nx∧H3.get H1.nx=some (.arr (gpC x) 181 0 0)∧slot A3.tm 0=.one (.o (.sl id g off l.length 3))∧slot A3.tm 1=.one (.b less)∧slot A3.tm 5=.one (.i .i64 (i:Int))∧slot A3.tm 6=.one (.o (.ptr H1.nx 0 0 3))∧slot A3.tm 9=.one (.o (.sl id g off l.length 3))∧slot A3.tm 10=.one (.i .i64 (l.length:Int))∧slot A3.tm 11=.one (.i .i64 (i:Int))∧A3.nt=69∧A3.dfr=[])
    ⟨((Fr.refl _).new _).mod _ (.inl (zA1 _)),?_⟩ ?_
   ·exact qZ (qA t0 (qA t1 (qA t9 (qA t10 (qA t11 (qA B0 (qA C0 bY)))))))
   clear t0 t1 t9 t10 t11 B0 C0 A;rintro A H3 ⟨g3,n3,rx,t0,t1,t5,t6,t9,t10,t11,B0,C0⟩;have next:∀ (A2:ab) (H2:Hp),Gr H3 H2→de less (l.take (i+1)) (l.drop (i+1))=r0→slot A2.tm 0=slot A.tm 0→slot A2.tm 1=slot A.tm 1→slot A2.tm 9=slot A.tm 9→slot A2.tm 10=slot A.tm 10→slot A2.tm 11=slot A.tm 11→A2.nt=69→A2.dfr=[] →
     K2 .normal A2 H2∧K2 (.exit 1) A2 H2:=by
    intro A2 H2 g2 hr s0 s1 s9 s10 s11 hn hd;have g2':Gr H H2:=g1.gr (g3.gr g2);rw[t0] at s0;rw[t1] at s1;rw[t9] at s9;rw[t10] at s10;rw[t11] at s11;refine ⟨q1 _ _ ?_,q2 _ _ ?_⟩
    ·refine qW (qA hn (qA s11 V0)) ?_;refine ⟨l.length - (i+1),by omega,i+1,rfl,D0,g2',hr,?_,?_,?_,?_,?_,?_,?_⟩
     ·simp only[aa,Nat.reduceEqDiff,reduceIte,s0]
     ·simp only[aa,Nat.reduceEqDiff,reduceIte,s1]
     ·simp only[aa,Nat.reduceEqDiff,reduceIte,s9]
     ·simp only[aa,Nat.reduceEqDiff,reduceIte,s10]
     ·simp only[aa,Nat.reduceEqDiff,reduceIte]
     ·simp only[aw,hn]
     simp only[aj,hd]
    refine qW (qA hn (qA s11 V0)) ?_;refine ⟨l.length - (i+1),by omega,i+1,rfl,D0,g2',hr,?_,?_,?_,?_,?_,?_,?_⟩
    ·simp only[aa,Nat.reduceEqDiff,reduceIte,s0]
    ·simp only[aa,Nat.reduceEqDiff,reduceIte,s1]
    ·simp only[aa,Nat.reduceEqDiff,reduceIte,s9]
    ·simp only[aa,Nat.reduceEqDiff,reduceIte,s10]
    ·simp only[aa,Nat.reduceEqDiff,reduceIte]
    ·simp only[aw,hn]
    simp only[aj,hd]
   clear q1 q2;rw[←B1] at hr;refine R1.aG fun K3 p1 p2 p3 p4=>?_;refine qG (qA ad (qA t6 (qA B0 (qA rx (qA n3 (qA dh (qA bY wi))))))) fun K hK=>?_;refine WE.con (rm H3 x) fun w H4 g4 hw=>?_;subst hw;have rx4:H4.get H1.nx=some (.arr (gpC x) 181 0 0):=by rw[g4.get _ n3 zB2];exact rx
   have n4:H1.nx<H4.nx:=zA0 n3 g4.nx;have g4':=g1.gr (g3.gr g4);cases N7:lT x with
   | true=>
    rw[zB0 N7] at hr;refine qS (qA ad (qA B0 t1)) ?_;refine hK _ _ ?_;clear hK K;cases less with
    | true=>
     rw[zB0 rfl] at hr;refine qY ?_;refine qW B0 ?_;exact p4 _ _ (q4 _ _ (k4 _ _ (fin 24 _ _ qp (qd C0) g4' hr)))
    | false=>
     rw[zB1 zA8] at hr;refine qY ?_;refine qG (qA ad (qA t6 (qA B0 (qA rx4 (qA n4 (qA dh (qA bY wi))))))) fun K hK=>?_;refine WE.con (rm H4 x) fun w H5 g5 hw=>?_;subst hw;have g35:Gr H3 H5:=g4.gr g5;have g5':Gr H H5:=g4'.gr g5;refine qS (qA ad (qA B0 N7)) ?_;refine hK _ _ ?_;clear hK K;refine qY ?_;by_cases V2:i=0
     ·have c0:((0:Int)<(i:Int))=False:=eq_false (by omega);rw[V2,List.take_zero,zB1 (by exact zA8),←V2] at hr;refine qW (qA ad (qA t5 (qA B0 c0))) ?_;refine qY ?_;refine qV ?_;exact p3 1 _ _ (by decide) (next _ _ g35 hr qp qp qp qp qp (by simp only[aw,B0]) (qd C0)).2
     have c0:((0:Int)<(i:Int))=True:=eq_true (by omega);have P_:i - 1<l.length:=by omega
     have ey:l[i - 1]?=some l[i - 1]:=zB4 P_;have W_:=yd (by omega) ey;generalize l[i - 1]=y at ey W_;have Y0:=L0 (i - 1) y ey;have l6:IntKind.i64.wrap ((i:Int) - 1)=((i - 1:Nat):Int):=by rw[ao (by omega) (by omega)];omega
     have M5:id<H5.nx:=zA0 hid (g3.gr g35).nx;have C8:rowOf (H5.get id) g=some cells:=by rw[(g3.gr g35).get _ hid zB2];exact P0
     rw[W_] at hr;refine qG (qA ad (qA t0 (qA t5 (qA B0 (qA c0 (qA l6 (qA cB (qA dh (qA (ixC P_) (qA M5 (qA C8 (qA Y0.all (qA Y0.le (qA bY wi)))))))))))))) fun K hK=>?_;refine WE.con (rm H5 y) fun w H6 g6 hw=>?_;subst hw;have g36:Gr H3 H6:=g35.gr g6;have g6':Gr H H6:=g5'.gr g6;cases hgy:lT y with
     | true=>
      rw[hgy,zB0 rfl] at hr;refine qS (qA ad B0) ?_;refine hK _ _ ?_;clear hK K;refine qY ?_;refine qW B0 ?_;exact p4 _ _ (q4 _ _ (k4 _ _ (fin 5 _ _ qp (qd C0) g6' hr)))
     | false=>
      rw[hgy,zB1 zA8] at hr;refine qS (qA ad B0) ?_;refine hK _ _ ?_;clear hK K;refine qY ?_;refine qV ?_;exact p3 1 _ _ (by decide) (next _ _ g36 hr qp qp qp qp qp (by simp only[aw,B0]) (qd C0)).2
   | false=>
    rw[zB1 (by rw[N7];exact zA8)] at hr;refine qS (qA ad (qA B0 t1)) ?_;refine hK _ _ ?_;clear hK K;refine qY ?_;refine qG (qA ad (qA t6 (qA B0 (qA rx4 (qA n4 (qA dh (qA bY wi))))))) fun K hK=>?_;refine WE.con (rm H4 x) fun w H5 g5 hw=>?_;subst hw;have rx5:H5.get H1.nx=some (.arr (gpC x) 181 0 0):=by rw[g5.get _ n4 zB2];exact rx4
    have n5:H1.nx<H5.nx:=zA0 n4 g5.nx;have g35:Gr H3 H5:=g4.gr g5;have g5':Gr H H5:=g4'.gr g5;refine qS (qA ad (qA B0 N7)) ?_;refine hK _ _ ?_;clear hK K;refine qY ?_;refine qG (qA ad (qA t6 (qA B0 (qA rx5 (qA n5 (qA eU (qA aO (qA bY fM)))))))) fun K hK=>?_;refine WE.gp (ri x.2.1) fun H6 g6 nn6 e6=>?_;have rx6:H6.get H1.nx=some (.arr (gpC x) 181 0 0):=(e6 _).trans rx5;have n6:H1.nx<H6.nx:=by rw[nn6];exact n5
    have g36:Gr H3 H6:=g35.gr g6;have g6':Gr H H6:=g5'.gr g6;cases D7:nmB x.2.1 with
    | false=>
     rw[zB0 D7] at hr;refine qS (qA ad B0) ?_;refine hK _ _ ?_;clear hK K;refine qY ?_;refine qW B0 ?_;exact p4 _ _ (q4 _ _ (k4 _ _ (fin 20 _ _ qp (qd C0) g6' hr)))
    | true=>
     rw[zB1 (by rw[D7];decide)] at hr;refine qS (qA ad B0) ?_;refine hK _ _ ?_;clear hK K;refine qY ?_;by_cases o8:x.1<1
     ·have c1:(x.1<1)=True:=eq_true o8;rw[zB0 (.inl o8)] at hr;refine qW (qA ad (qA t6 (qA B0 (qA rx6 (qA n6 (qA eh (qA bV (qA bY c1)))))))) ?_;refine qY ?_;refine qW B0 ?_;exact p4 _ _ (q4 _ _ (k4 _ _ (fin 21 _ _ qp (qd C0) g6' hr)))
     have c1:(x.1<1)=False:=eq_false o8;by_cases T4:(99:Int)<x.1
     ·have c2:((99:Int)<x.1)=True:=eq_true T4;rw[zB0 (.inr T4)] at hr;refine qW (qA ad (qA t6 (qA B0 (qA rx6 (qA n6 (qA eh (qA bV (qA bY (qA c1 c2))))))))) ?_;refine qY ?_;refine qW B0 ?_;exact p4 _ _ (q4 _ _ (k4 _ _ (fin 21 _ _ qp (qd C0) g6' hr)))
     have c2:((99:Int)<x.1)=False:=eq_false T4;rw[zB1 (fun h=>h.elim o8 T4)] at hr;refine qW (qA ad (qA t6 (qA B0 (qA rx6 (qA n6 (qA eh (qA bV (qA bY (qA c1 c2))))))))) ?_;refine qY ?_;refine qW B0 ?_;refine p1 _ _ ?_;have i_:id<H6.nx:=zA0 hid (g3.gr g36).nx;have hgr6:rowOf (H6.get id) g=some cells:=by rw[(g3.gr g36).get _ hid zB2];exact P0
     generalize hrb:tH (l.take i) x.2.1=rb at hr;have V4:(l.take i).length=i:=by rw[List.length_take];omega
     refine qG (qA ad (qA t0 (qA t5 (qA B0 (qA cB (qA bM (qA (slH (Nat.le_of_lt D0)) i_))))))) fun K hK=>?_;refine hK _ _ ?_;clear hK K;refine R1.aG fun K4 u1 u2 u3 u4=>?_;refine R1.loop (fun k A2 H2=>∃ j:Nat,k=i - j∧j≤i∧Gr H6 H2∧tH ((l.take i).drop j) x.2.1=rb∧slot A2.tm 0=.one (.o (.sl id g off l.length 3))∧slot A2.tm 1=.one (.b less)∧slot A2.tm 6=.one (.o (.ptr H1.nx 0 0 3))∧slot A2.tm 9=.one (.o (.sl id g off l.length 3))∧slot A2.tm 10=.one (.i .i64 (l.length:Int))∧slot A2.tm 11=.one (.i .i64 (i:Int))∧slot A2.tm 51=.one (.o (.sl id g off i 3))∧slot A2.tm 52=.one (.i .i64 (i:Int))∧slot A2.tm 53=.one (.i .i64 (j:Int))∧A2.nt=69∧A2.dfr=[]) ?_ i
      ⟨0,rfl,Nat.zero_le _,Fr.refl _,by rw[List.drop_zero];exact hrb,?_⟩
     ·rintro k A2 H2 ⟨j,rfl,hj,g2,J0,s0,s1,s6,s9,s10,s11,s51,s52,s53,hn,hd⟩;have rx2:H2.get H1.nx=some (.arr (gpC x) 181 0 0):=by rw[g2.get _ n6 zB2];exact rx6
      have n2:H1.nx<H2.nx:=zA0 n6 g2.nx;have U_:id<H2.nx:=zA0 i_ g2.nx;have hgr2:rowOf (H2.get id) g=some cells:=by rw[g2.get _ i_ zB2];exact hgr6
      have g2':Gr H H2:=g6'.gr g2;refine qW (qA ad (qA s52 (qA s53 hn))) ?_;refine qE fun Kx Ky hx hy=>?_;refine cY (fun hc=>hx ?_) (fun hc=>hy ?_)
      ·clear hx hy Kx Ky;have hjt:j<i:=by omega
       have hjt':j<(l.take i).length:=by omega
       have hdr2:(l.take i).drop j=(l.take i)[j]::(l.take i).drop (j+1):=List.drop_eq_getElem_cons hjt';have ey:l[j]?=some (l.take i)[j]:=by rw[List.getElem_take];exact zB4 (by omega)
       generalize (l.take i)[j]=y at hdr2 ey;have Y0:=L0 j y ey;have hw4:=zC0 j (by omega);rw[hdr2,tH,List.any_cons] at J0;refine qV ?_;refine R1.aG fun K5 w1 w2 w3 w4=>?_;refine qG (qA ad (qA s51 (qA s53 (qA hn (qA cB (qA dh (qA pb (qA jO (qA (ixC hjt) (qA U_ (qA hgr2 (qA Y0.all (qA Y0.le bY))))))))))))) fun K hK=>?_;refine hK _ _ ?_;clear hK K;refine R1.gen (fun A3 H7=>Gr H2 H7∧H2.nx<H7.nx∧H7.get H2.nx=some (.arr (gpC y) 181 0 0)∧slot A3.tm 8=.one (.o (.ptr H2.nx 0 0 3))∧slot A3.tm 0=.one (.o (.sl id g off l.length 3))∧slot A3.tm 1=.one (.b less)∧slot A3.tm 6=.one (.o (.ptr H1.nx 0 0 3))∧slot A3.tm 9=.one (.o (.sl id g off l.length 3))∧slot A3.tm 10=.one (.i .i64 (l.length:Int))∧slot A3.tm 11=.one (.i .i64 (i:Int))∧slot A3.tm 51=.one (.o (.sl id g off i 3))∧slot A3.tm 52=.one (.i .i64 (i:Int))∧slot A3.tm 53=.one (.i .i64 (j:Int))∧A3.nt=69∧A3.dfr=[])
        ⟨((Fr.refl _).new _).mod _ (.inl (zA1 _)),?_⟩ ?_
       ·exact qZ (qA s0 (qA s1 (qA s6 (qA s9 (qA s10 (qA s11 (qA s51 (qA s52 (qA s53 (qA hn (qA hd bY)))))))))))
       clear s0 s1 s6 s9 s10 s11 s51 s52 s53 hn hd A2;rintro A2 H7 ⟨g7,n7,ry,s8,s0,s1,s6,s9,s10,s11,s51,s52,s53,hn,hd⟩;have rx7:H7.get H1.nx=some (.arr (gpC x) 181 0 0):=by rw[g7.get _ n2 zB2];exact rx2
       have n17:H1.nx<H7.nx:=zA0 n2 g7.nx;have g7':Gr H H7:=g2'.gr g7;cases cs:(y.2.1==x.2.1) with
       | true=>
        rw[cs,Bool.true_or] at J0;rw[←J0,zB0 rfl] at hr;refine qW (qA ad (qA s8 (qA s6 (qA hn (qA ry (qA n7 (qA rx7 (qA n17 (qA bY (qA eU aO)))))))))) ?_;refine qE fun Kx Ky hx hy=>?_;rw[bO,cs];refine hx ?_;clear hx hy Kx Ky;refine qW hn ?_;exact w4 _ _ (u4 _ _ (q4 _ _ (k4 _ _ (fin 22 _ _ qp (by simp only[aj,hd]) g7' hr))))
       | false=>
        rw[cs,Bool.false_or] at J0;refine qW (qA ad (qA s8 (qA s6 (qA hn (qA ry (qA n7 (qA rx7 (qA n17 (qA bY (qA eU aO)))))))))) ?_;refine qE fun Kx Ky hx hy=>?_;rw[bO,cs];refine hy ?_;clear hx hy Kx Ky;refine qW hn ?_;refine w1 _ _ ?_;refine qW (qA hn (qA s53 hw4)) ?_;refine ⟨i - (j+1),by omega,j+1,rfl,hjt,g2.gr g7,J0,?_,?_,?_,?_,?_,?_,?_,?_,?_,?_,?_⟩
        ·simp only[aa,Nat.reduceEqDiff,reduceIte,s0]
        ·simp only[aa,Nat.reduceEqDiff,reduceIte,s1]
        ·simp only[aa,Nat.reduceEqDiff,reduceIte,s6]
        ·simp only[aa,Nat.reduceEqDiff,reduceIte,s9]
        ·simp only[aa,Nat.reduceEqDiff,reduceIte,s10]
        ·simp only[aa,Nat.reduceEqDiff,reduceIte,s11]
        ·simp only[aa,Nat.reduceEqDiff,reduceIte,s51]
        ·simp only[aa,Nat.reduceEqDiff,reduceIte,s52]
        ·simp only[aa,Nat.reduceEqDiff,reduceIte]
        ·simp only[aw,hn]
        simp only[aj,hd]
      clear hx hy Kx Ky;have hje:(l.take i).drop j=[]:=List.drop_eq_nil_of_le (by omega);rw[hje] at J0;rw[←J0,zB1 (by exact zA8)] at hr;refine qW hn ?_;refine u2 _ _ ?_;cases less with
      | false=>
       rw[zB1 (by exact zA8)] at hr;refine qW (qA ad (qA s1 hn)) ?_;refine qY ?_;refine qW hn ?_;exact (next _ _ (g36.gr g2) hr (by simp only[aa,Nat.reduceEqDiff,reduceIte,s0,t0]) (by simp only[aa,Nat.reduceEqDiff,reduceIte,s1,t1]) (by simp only[aa,Nat.reduceEqDiff,reduceIte,s9,t9]) (by simp only[aa,Nat.reduceEqDiff,reduceIte,s10,t10]) (by simp only[aa,Nat.reduceEqDiff,reduceIte,s11,t11]) (by simp only[aw,hn]) (by simp only[aj,hd])).1
      | true=>
       cases u9:x.2.2 with
       | true=>
        rw[u9,zB0 (by rfl)] at hr;refine qW (qA ad (qA s1 (qA s6 (qA hn (qA rx2 (qA n2 (qA bY (qA gR (qA jx u9))))))))) ?_;refine qY ?_;refine qW hn ?_;exact q4 _ _ (k4 _ _ (fin 24 _ _ qp (by simp only[aj,hd]) g2' hr))
       | false=>
        rw[u9,zB1 (by exact zA8)] at hr;refine qW (qA ad (qA s1 (qA s6 (qA hn (qA rx2 (qA n2 (qA bY (qA gR (qA jx u9))))))))) ?_;refine qY ?_;refine qW hn ?_;exact (next _ _ (g36.gr g2) hr (by simp only[aa,Nat.reduceEqDiff,reduceIte,s0,t0]) (by simp only[aa,Nat.reduceEqDiff,reduceIte,s1,t1]) (by simp only[aa,Nat.reduceEqDiff,reduceIte,s9,t9]) (by simp only[aa,Nat.reduceEqDiff,reduceIte,s10,t10]) (by simp only[aa,Nat.reduceEqDiff,reduceIte,s11,t11]) (by simp only[aw,hn]) (by simp only[aj,hd])).1
     simp only[aa,Nat.reduceEqDiff,reduceIte,aw,aj,t0,t1,t6,t9,t10,t11,B0,C0,and_self,true_and];exact ⟨rfl,trivial⟩
  clear hx hy Kx Ky;have C2:i=l.length:=by omega
  rw[C2,List.drop_length,de] at hr;refine qW B0 ?_;refine k2 _ _ ?_;refine qW B0 ?_;exact fin 0 _ _ qp (qd C0) g1 hr
 simp only[aa,Nat.reduceEqDiff,reduceIte,aw,aj,h0,h1,and_self,true_and];exact ⟨rfl,trivial⟩
theorem tt (H:Hp) (v:AC) (l:List Gp) (less:Bool) (hv:aM H v l) (hL:l.length≤1000000):
  Con E2 156 [.one v,.one (.b less)] H (fun _=>False) fun r _=>r=.one (.i .i64 (de less [] l)):=by
 refine Con.of rfl fun lg=>?_;have hv:aM ⟨H.t,H.nx,lg⟩ v l:=hv;generalize (⟨H.t,H.nx,lg⟩:Hp)=H at hv ⊢;refine C1.body (E:=E2) (nt:=68) (res:=[.tmp 4]) Tryz.func156 rfl rfl rfl rfl rfl fun tm A0=>?_;have h0:=A0 0 _ rfl;have h1:=A0 1 _ rfl;clear A0;have fin:∀ (e:Int) (A:ab) (H3:Hp),slot A.tm 4=.one (.i .i64 e)→A.dfr=[]→Gr H H3→e=de less [] l→∃ w H4,an E2 [.tmp 4] (.ret,A,H3)=.ok [(w,H4)]∧Gr H H4∧∀ _:List Nat,w=.one (.i .i64 (de less [] l)):=fun e A H3 h1 h2 h3 h4=>⟨_,H3,ah (.i .i64 e) (.inr rfl) h2 h1,h3,fun _=>by rw[h4]⟩;generalize E0:de less [] l=r0 at fin;refine qW ad ?_;refine R1.aG fun K k1 k2 k3 k4=>?_;refine R1.loop (fun k A H1=>∃ i:Nat,k=l.length - i∧i≤l.length∧Gr H H1∧de less (l.take i) (l.drop i)=r0∧slot A.tm 0=.one v∧slot A.tm 1=.one (.b less)∧slot A.tm 5=.one (.i .i64 (i:Int))∧A.nt=68∧A.dfr=[]) ?_ l.length
  ⟨0,rfl,Nat.zero_le _,Fr.refl _,E0,?_⟩
 ·clear h0 h1 tm;rintro k A H1 ⟨i,rfl,hi,g1,hr,t0,t1,t5,B0,C0⟩;have B2:=hv.gr g1;refine qW (qA ad (qA t0 (qA t5 (qA B0 (qA bM (qA B2.len B2.lt)))))) ?_;refine qE fun Kx Ky hx hy=>?_;refine cY (fun hc=>hx ?_) (fun hc=>hy ?_)
  ·clear hx hy Kx Ky;have D0:i<l.length:=by omega
   obtain ⟨id,g,off,cells,rfl,hid,P0,L0⟩:=B2.open (by omega);have ex:=zB4 D0;have Q0:=zC1 D0;have B1:=zC2 D0;generalize l[i]=x at ex Q0 B1;have K0:=L0 i x ex;have V0:=zC0 i (by omega);rw[Q0,de] at hr;refine qV ?_;refine R1.aG fun K2 q1 q2 q3 q4=>?_;refine qG (qA ad (qA t0 (qA t5 (qA B0 (qA cB (qA dh (qA pb (qA jO (qA (ixC D0) (qA hid (qA P0 (qA K0.all (qA K0.le bY))))))))))))) fun K hK=>?_;refine hK _ _ ?_;clear hK K;refine R1.gen (fun A3 H3=>Gr H1 H3∧H1.nx<H3.nx∧H3.get H1.nx=some (.arr (gpC x) 181 0 0)∧slot A3.tm 0=.one (.o (.sl id g off l.length 3))∧slot A3.tm 1=.one (.b less)∧slot A3.tm 5=.one (.i .i64 (i:Int))∧slot A3.tm 6=.one (.o (.ptr H1.nx 0 0 3))∧A3.nt=68∧A3.dfr=[])
    ⟨((Fr.refl _).new _).mod _ (.inl (zA1 _)),?_⟩ ?_
   ·exact qZ (qA t0 (qA t1 (qA t5 (qA B0 (qA C0 bY)))))
   clear t0 t1 t5 B0 C0 A;rintro A H3 ⟨g3,n3,rx,t0,t1,t5,t6,B0,C0⟩;have next:∀ (A2:ab) (H2:Hp),Gr H3 H2→de less (l.take (i+1)) (l.drop (i+1))=r0→slot A2.tm 0=slot A.tm 0→slot A2.tm 1=slot A.tm 1→slot A2.tm 5=slot A.tm 5→A2.nt=68→A2.dfr=[] →
     K2 .normal A2 H2:=by
    intro A2 H2 g2 hr s0 s1 s5 hn hd;have g2':Gr H H2:=g1.gr (g3.gr g2);rw[t0] at s0;rw[t1] at s1;rw[t5] at s5;refine q1 _ _ ?_;refine qW (qA hn (qA s5 V0)) ?_;refine ⟨l.length - (i+1),by omega,i+1,rfl,D0,g2',hr,?_,?_,?_,?_,?_⟩
    ·simp only[aa,Nat.reduceEqDiff,reduceIte,s0]
    ·simp only[aa,Nat.reduceEqDiff,reduceIte,s1]
    ·simp only[aa,Nat.reduceEqDiff,reduceIte]
    ·simp only[aw,hn]
    simp only[aj,hd]
   clear q1 q2;rw[←B1] at hr;refine R1.qu fun K3 p1 p2 p3 p4=>?_;refine qG (qA ad (qA t6 (qA B0 (qA rx (qA n3 (qA dh (qA bY jA))))))) fun K hK=>?_;refine WE.con (hG H3 x) fun w H4 g4 hw=>?_;subst hw;have rx4:H4.get H1.nx=some (.arr (gpC x) 181 0 0):=by rw[g4.get _ n3 zB2];exact rx
   have n4:H1.nx<H4.nx:=zA0 n3 g4.nx;have g4':=g1.gr (g3.gr g4);cases N7:lT x with
   | true=>
    rw[zB0 N7] at hr;refine qS (qA ad (qA B0 t1)) ?_;refine hK _ _ ?_;clear hK K;cases less with
    | true=>
     rw[zB0 rfl] at hr;refine qY ?_;refine qW B0 ?_;exact p4 _ _ (q4 _ _ (k4 _ _ (fin 24 _ _ qp (qd C0) g4' hr)))
    | false=>
     rw[zB1 zA8] at hr;refine qY ?_;refine qG (qA ad (qA t6 (qA B0 (qA rx4 (qA n4 (qA dh (qA bY jA))))))) fun K hK=>?_;refine WE.con (hG H4 x) fun w H5 g5 hw=>?_;subst hw;have rx5:H5.get H1.nx=some (.arr (gpC x) 181 0 0):=by rw[g5.get _ n4 zB2];exact rx4
     have n5:H1.nx<H5.nx:=zA0 n4 g5.nx;have g35:Gr H3 H5:=g4.gr g5;have g5':Gr H H5:=g4'.gr g5;by_cases V2:i=0
     ·have c0:((0:Int)<(i:Int))=False:=eq_false (by omega);rw[V2,List.take_zero,zB1 (by exact zA8),←V2] at hr;refine qS (qA ad (qA t5 (qA B0 (qA N7 c0)))) ?_;refine hK _ _ ?_;clear hK K;refine qY ?_;refine qG (qA ad (qA t6 (qA B0 (qA rx5 (qA n5 (qA dh (qA bY jA))))))) fun K hK=>?_;refine WE.con (hG H5 x) fun w H6 g6 hw=>?_;subst hw;have g36:Gr H3 H6:=g35.gr g6;refine qS (qA ad (qA B0 N7)) ?_;refine hK _ _ ?_;clear hK K;refine qY ?_;refine qV ?_;exact p1 _ _ (next _ _ g36 hr qp qp qp (by simp only[aw,B0]) (qd C0))
     have c0:((0:Int)<(i:Int))=True:=eq_true (by omega);have P_:i - 1<l.length:=by omega
     have ey:l[i - 1]?=some l[i - 1]:=zB4 P_;have W_:=yd (by omega) ey;generalize l[i - 1]=y at ey W_;have Y0:=L0 (i - 1) y ey;have l6:IntKind.i64.wrap ((i:Int) - 1)=((i - 1:Nat):Int):=by rw[ao (by omega) (by omega)];omega
     have M5:id<H5.nx:=zA0 hid (g3.gr g35).nx;have C8:rowOf (H5.get id) g=some cells:=by rw[(g3.gr g35).get _ hid zB2];exact P0
     rw[W_] at hr;refine qS (qA ad (qA t0 (qA t5 (qA B0 (qA N7 (qA c0 (qA l6 (qA cB (qA dh (qA (ixC P_) (qA M5 (qA C8 (qA Y0.all (qA Y0.le (qA bY jA))))))))))))))) ?_;refine WE.con (hG H5 y) fun w H6 g6 hw=>?_;subst hw;have rx6:H6.get H1.nx=some (.arr (gpC x) 181 0 0):=by rw[g6.get _ n5 zB2];exact rx5
     have n6:H1.nx<H6.nx:=zA0 n5 g6.nx;have g36:Gr H3 H6:=g35.gr g6;have g6':Gr H H6:=g5'.gr g6;cases hgy:lT y with
     | true=>
      rw[hgy,zB0 rfl] at hr;refine qS (qA ad B0) ?_;refine hK _ _ ?_;clear hK K;refine qY ?_;refine qW B0 ?_;exact p4 _ _ (q4 _ _ (k4 _ _ (fin 5 _ _ qp (qd C0) g6' hr)))
     | false=>
      rw[hgy,zB1 zA8] at hr;refine qS (qA ad B0) ?_;refine hK _ _ ?_;clear hK K;refine qY ?_;refine qG (qA ad (qA t6 (qA B0 (qA rx6 (qA n6 (qA dh (qA bY jA))))))) fun K hK=>?_;refine WE.con (hG H6 x) fun w H7 g7 hw=>?_;subst hw;have g37:Gr H3 H7:=g36.gr g7;refine qS (qA ad (qA B0 N7)) ?_;refine hK _ _ ?_;clear hK K;refine qY ?_;refine qV ?_;exact p1 _ _ (next _ _ g37 hr qp qp qp (by simp only[aw,B0]) (qd C0))
   | false=>
    rw[zB1 (by rw[N7];exact zA8)] at hr;refine qS (qA ad (qA B0 t1)) ?_;refine hK _ _ ?_;clear hK K;refine qY ?_;refine qG (qA ad (qA t6 (qA B0 (qA rx4 (qA n4 (qA dh (qA bY jA))))))) fun K hK=>?_;refine WE.con (hG H4 x) fun w H5 g5 hw=>?_;subst hw;have rx5:H5.get H1.nx=some (.arr (gpC x) 181 0 0):=by rw[g5.get _ n4 zB2];exact rx4
    have n5:H1.nx<H5.nx:=zA0 n4 g5.nx;have g35:Gr H3 H5:=g4.gr g5;have g5':Gr H H5:=g4'.gr g5;refine qS (qA ad (qA B0 N7)) ?_;refine hK _ _ ?_;clear hK K;refine qY ?_;refine qG (qA ad (qA t6 (qA B0 (qA rx5 (qA n5 (qA dh (qA bY jA))))))) fun K hK=>?_;refine WE.con (hG H5 x) fun w H8 g8 hw=>?_;subst hw;have rx8:H8.get H1.nx=some (.arr (gpC x) 181 0 0):=by rw[g8.get _ n5 zB2];exact rx5
    have n8:H1.nx<H8.nx:=zA0 n5 g8.nx;have g38:Gr H3 H8:=g35.gr g8;have g8':Gr H H8:=g5'.gr g8;refine qS (qA ad (qA B0 N7)) ?_;refine hK _ _ ?_;clear hK K;refine qY ?_;refine qG (qA ad (qA t6 (qA B0 (qA rx8 (qA n8 (qA eU (qA aO (qA bY kX)))))))) fun K hK=>?_;refine WE.con (dT H8 x.2.1) fun w H6 g6 hw=>?_;subst hw;have rx6:H6.get H1.nx=some (.arr (gpC x) 181 0 0):=by rw[g6.get _ n8 zB2];exact rx8
    have n6:H1.nx<H6.nx:=zA0 n8 g6.nx;have g36:Gr H3 H6:=g38.gr g6;have g6':Gr H H6:=g8'.gr g6;cases D7:nmB x.2.1 with
    | false=>
     rw[zB0 D7] at hr;refine qS (qA ad B0) ?_;refine hK _ _ ?_;clear hK K;refine qY ?_;refine qW B0 ?_;exact p4 _ _ (q4 _ _ (k4 _ _ (fin 20 _ _ qp (qd C0) g6' hr)))
    | true=>
     rw[zB1 (by rw[D7];decide)] at hr;refine qS (qA ad B0) ?_;refine hK _ _ ?_;clear hK K;refine qY ?_;by_cases o8:x.1<1
     ·have c1:(x.1<1)=True:=eq_true o8;rw[zB0 (.inl o8)] at hr;refine qW (qA ad (qA t6 (qA B0 (qA rx6 (qA n6 (qA eh (qA bV (qA bY c1)))))))) ?_;refine qY ?_;refine qW B0 ?_;exact p4 _ _ (q4 _ _ (k4 _ _ (fin 21 _ _ qp (qd C0) g6' hr)))
     have c1:(x.1<1)=False:=eq_false o8;by_cases T4:(99:Int)<x.1
     ·have c2:((99:Int)<x.1)=True:=eq_true T4;rw[zB0 (.inr T4)] at hr;refine qW (qA ad (qA t6 (qA B0 (qA rx6 (qA n6 (qA eh (qA bV (qA bY (qA c1 c2))))))))) ?_;refine qY ?_;refine qW B0 ?_;exact p4 _ _ (q4 _ _ (k4 _ _ (fin 21 _ _ qp (qd C0) g6' hr)))
     have c2:((99:Int)<x.1)=False:=eq_false T4;rw[zB1 (fun h=>h.elim o8 T4)] at hr;have i_:id<H6.nx:=zA0 hid (g3.gr g36).nx;have hgr6:rowOf (H6.get id) g=some cells:=by rw[(g3.gr g36).get _ hid zB2];exact P0
     have hvt:aM H6 (.o (.sl id g off i 3)) (l.take i):=(B2.gr (g3.gr g36)).take (Nat.le_of_lt D0);refine qG (qA ad (qA t6 (qA B0 (qA rx6 (qA n6 (qA eh (qA bV (qA bY (qA c1 c2))))))))) fun K hK=>?_;refine hK _ _ ?_;clear hK K;refine qY ?_;refine qG (qA ad (qA t0 (qA t5 (qA t6 (qA B0 (qA cB (qA (slH (Nat.le_of_lt D0)) (qA i_ (qA rx6 (qA n6 (qA eU (qA aO (qA bY Xf))))))))))))) fun K hK=>?_;refine WE.con (Us H6 _ (l.take i) x.2.1 hvt (by rw[List.length_take];omega)) fun w H7 g7 hw=>?_;subst hw;have rx7:H7.get H1.nx=some (.arr (gpC x) 181 0 0):=by rw[g7.get _ n6 zB2];exact rx6
     have n7:H1.nx<H7.nx:=zA0 n6 g7.nx;have g37:Gr H3 H7:=g36.gr g7;have g7':Gr H H7:=g6'.gr g7;refine qS (qA ad B0) ?_;refine hK _ _ ?_;clear hK K;cases hhd:tH (l.take i) x.2.1 with
     | true=>
      rw[hhd,zB0 rfl] at hr;refine qY ?_;refine qW B0 ?_;exact p4 _ _ (q4 _ _ (k4 _ _ (fin 22 _ _ qp (qd C0) g7' hr)))
     | false=>
      rw[hhd,zB1 zA8] at hr;refine qY ?_;cases less with
      | false=>
       rw[zB1 (by exact zA8)] at hr;refine qW (qA ad (qA t1 B0)) ?_;refine qY ?_;refine qW B0 ?_;exact p1 _ _ (next _ _ g37 hr qp qp qp (by simp only[aw,B0]) (qd C0))
      | true=>
       cases u9:x.2.2 with
       | true=>
        rw[u9,zB0 (by rfl)] at hr;refine qW (qA ad (qA t1 (qA t6 (qA B0 (qA rx7 (qA n7 (qA bY (qA gR (qA jx u9))))))))) ?_;refine qY ?_;refine qW B0 ?_;exact p4 _ _ (q4 _ _ (k4 _ _ (fin 24 _ _ qp (qd C0) g7' hr)))
       | false=>
        rw[u9,zB1 (by exact zA8)] at hr;refine qW (qA ad (qA t1 (qA t6 (qA B0 (qA rx7 (qA n7 (qA bY (qA gR (qA jx u9))))))))) ?_;refine qY ?_;refine qW B0 ?_;exact p1 _ _ (next _ _ g37 hr qp qp qp (by simp only[aw,B0]) (qd C0))
  clear hx hy Kx Ky;have C2:i=l.length:=by omega
  rw[C2,List.drop_length,de] at hr;refine qW B0 ?_;refine k2 _ _ ?_;refine qW B0 ?_;exact fin 0 _ _ qp (qd C0) g1 hr
 simp only[aa,Nat.reduceEqDiff,reduceIte,aw,aj,h0,h1,and_self,true_and];exact ⟨rfl,trivial⟩
abbrev Nm:=List Gp×List Gp
def dt (x:Nm):Int:=
 if (24:Int)<x.1.length∨(24:Int)<x.2.length then 3 else if x.1.length=0 then 5 else
 if de false [] x.1≠0 then de false [] x.1 else if de true [] x.2≠0 then de true [] x.2 else
 if (0<x.2.length∧kg x.1=true) then 24 else 0
theorem pX (H:Hp) (u w:AC) (x:Nm) (hu:aM H u x.1) (hw:aM H w x.2):
  Con E2 65 [.agg [u,w]] H (fun _=>False) fun r _=>r=.one (.i .i64 (dt x)):=by
 refine Con.of rfl fun lg=>?_;have hu:aM ⟨H.t,H.nx,lg⟩ u x.1:=hu;have hw:aM ⟨H.t,H.nx,lg⟩ w x.2:=hw;generalize (⟨H.t,H.nx,lg⟩:Hp)=H at hu hw ⊢;refine C1.body (E:=E2) (nt:=40) (res:=[.tmp 2]) Tryz.func65 rfl rfl rfl rfl rfl fun tm A0=>?_;have h0:=A0 0 _ rfl;clear A0;have fin:∀ (e:Int) (A:ab) (H3:Hp),slot A.tm 2=.one (.i .i64 e)→A.dfr=[]→Gr H H3→e=dt x→∃ w H4,an E2 [.tmp 2] (.ret,A,H3)=.ok [(w,H4)]∧Gr H H4∧∀ _:List Nat,w=.one (.i .i64 (dt x)):=fun e A H3 h1 h2 h3 h4=>⟨_,H3,ah (.i .i64 e) (.inr rfl) h2 h1,h3,fun _=>by rw[h4]⟩;generalize E0:dt x=r0 at fin;unfold dt at E0;refine qG (qA ad h0) fun K hK=>?_;refine hK _ _ ?_;clear hK K;refine R1.gen (fun A1 H1=>Gr H H1∧H.nx<H1.nx∧H1.get H.nx=some (.arr [u,w] 66 0 0)∧slot A1.tm 1=.one (.o (.ptr H.nx 0 0 2))∧A1.nt=40∧A1.dfr=[])
  ⟨(Fr.refl _).new _,?_⟩ ?_
 ·exact qZ h0
 rintro A1 H1 ⟨g1,n1,rx,t1,B0,C0⟩;clear h0 tm;have Q1:=hu.gr g1;have R3:=hw.gr g1;by_cases h24:(24:Int)<x.1.length
 ·have c24:((24:Int)<x.1.length)=True:=eq_true h24;rw[zB0 (.inl h24)] at E0;refine qW (qA ad (qA t1 (qA B0 (qA rx (qA n1 (qA bm (qA bq (qA bM (qA Q1.len (qA Q1.lt c24)))))))))) ?_;refine qY ?_;refine qW B0 ?_;exact fin 3 _ _ qp (qd C0) g1 E0
 have c24:((24:Int)<x.1.length)=False:=eq_false h24;by_cases h25:(24:Int)<x.2.length
 ·have c25:((24:Int)<x.2.length)=True:=eq_true h25;rw[zB0 (.inr h25)] at E0;refine qW (qA ad (qA t1 (qA B0 (qA rx (qA n1 (qA bm (qA cm (qA bq (qA bM (qA Q1.len (qA Q1.lt (qA R3.len (qA R3.lt (qA c24 c25)))))))))))))) ?_;refine qY ?_;refine qW B0 ?_;exact fin 3 _ _ qp (qd C0) g1 E0
 have c25:((24:Int)<x.2.length)=False:=eq_false h25;rw[zB1 (fun h=>h.elim h24 h25)] at E0;refine qW (qA ad (qA t1 (qA B0 (qA rx (qA n1 (qA bm (qA cm (qA bq (qA bM (qA Q1.len (qA Q1.lt (qA R3.len (qA R3.lt (qA c24 c25)))))))))))))) ?_;refine qY ?_;by_cases hz:x.1.length=0
 ·have cz:((x.1.length:Int)==0)=true:=by rw[hz];rfl
  rw[zB0 hz] at E0;refine qW (qA ad (qA t1 (qA B0 (qA rx (qA n1 (qA bm (qA bq (qA bM (qA Q1.len (qA Q1.lt cz)))))))))) ?_;refine qY ?_;refine qW B0 ?_;exact fin 5 _ _ qp (qd C0) g1 E0
 have cz:((x.1.length:Int)==0)=false:=zB5 (by omega);rw[zB1 hz] at E0;refine qW (qA ad (qA t1 (qA B0 (qA rx (qA n1 (qA bm (qA bq (qA bM (qA Q1.len (qA Q1.lt cz)))))))))) ?_;refine qY ?_;refine R1.aT ?_;refine qG (qA ad (qA t1 (qA B0 (qA rx (qA n1 (qA bm (qA bq oB))))))) fun K hK=>?_;refine WE.con (mv H1 u x.1 false Q1 (by omega)) fun r H2 g2 hr=>?_;subst hr;have rx2:H2.get H.nx=some (.arr [u,w] 66 0 0):=by rw[g2.get _ n1 zB2];exact rx
 have n2:H.nx<H2.nx:=zA0 n1 g2.nx;have g2':=g1.gr g2;refine qS (qA ad B0) ?_;refine hK _ _ ?_;clear hK K;generalize de false [] x.1=e1 at E0 ⊢;by_cases X4:e1=0
 case neg=>
  have ce:(e1 != 0)=true:=bne_iff_ne.2 X4;rw[zB0 X4] at E0;refine qW (qA ad (qA B0 ce)) ?_;refine qE fun Kx Ky hx hy=>?_;refine cY (fun _=>hx ?_) (fun h=>absurd ce (by simpa using h));clear hx hy Kx Ky;refine qW B0 ?_;exact fin e1 _ _ qp (qd C0) g2' E0
 rw[zB1 (fun h=>h X4)] at E0;refine qW (qA ad (qA B0 X4)) ?_;refine qY ?_;refine R1.aT ?_;refine qG (qA ad (qA t1 (qA B0 (qA rx2 (qA n2 (qA cm (qA bq oB))))))) fun K hK=>?_;refine WE.con (mv H2 w x.2 true (R3.gr g2) (by omega)) fun r H3 g3 hr=>?_;subst hr;have rx3:H3.get H.nx=some (.arr [u,w] 66 0 0):=by rw[g3.get _ n2 zB2];exact rx2
 have n3:H.nx<H3.nx:=zA0 n2 g3.nx;have g3':=g2'.gr g3;have m6:=(Q1.gr g2).gr g3;have l6:=(R3.gr g2).gr g3;refine qS (qA ad B0) ?_;refine hK _ _ ?_;clear hK K;generalize de true [] x.2=e2 at E0 ⊢;by_cases B6:e2=0
 case neg=>
  have ce:(e2 != 0)=true:=bne_iff_ne.2 B6;rw[zB0 B6] at E0;refine qW (qA ad (qA B0 ce)) ?_;refine qE fun Kx Ky hx hy=>?_;refine cY (fun _=>hx ?_) (fun h=>absurd ce (by simpa using h));clear hx hy Kx Ky;refine qW B0 ?_;exact fin e2 _ _ qp (qd C0) g3' E0
 rw[zB1 (fun h=>h B6)] at E0;refine qW (qA ad (qA B0 B6)) ?_;refine qY ?_;refine R1.aT ?_;by_cases hp:0<x.2.length
 ·have cp:((0:Int)<x.2.length)=True:=eq_true (by omega);refine qG (qA ad (qA t1 (qA B0 (qA rx3 (qA n3 (qA bm (qA cm (qA bq (qA bM (qA m6.lt (qA l6.len (qA l6.lt (qA cp yG))))))))))))) fun K hK=>?_;refine WE.con (vS H3 u x.1 m6 (by omega)) fun r H4 g4 hr=>?_;subst hr;have g4':=g3'.gr g4;refine qS (qA ad B0) ?_;refine hK _ _ ?_;clear hK K;cases hb:kg x.1 with
  | true=>
   rw[zB0 ⟨hp,hb⟩] at E0;refine qY ?_;refine qW B0 ?_;exact fin 24 _ _ qp (qd C0) g4' E0
  | false=>
   rw[zB1 (fun h=>by rw[hb] at h;cases h.2)] at E0;refine qY ?_;refine qW B0 ?_;exact fin 0 _ _ qp (qd C0) g4' E0
 have cp:((0:Int)<x.2.length)=False:=eq_false (by omega);rw[zB1 (fun h=>hp h.1)] at E0;refine qW (qA ad (qA t1 (qA B0 (qA rx3 (qA n3 (qA bm (qA cm (qA bq (qA bM (qA m6.lt (qA l6.len (qA l6.lt cp)))))))))))) ?_;refine qY ?_;refine qW B0 ?_;exact fin 0 _ _ qp (qd C0) g3' E0
theorem oK (H:Hp) (u w:AC) (x:Nm) (hu:aM H u x.1) (hw:aM H w x.2):
  Con E2 88 [.agg [u,w]] H (fun _=>False) fun r _=>r=.one (.i .i64 (dt x)):=by
 refine Con.of rfl fun lg=>?_;have hu:aM ⟨H.t,H.nx,lg⟩ u x.1:=hu;have hw:aM ⟨H.t,H.nx,lg⟩ w x.2:=hw;generalize (⟨H.t,H.nx,lg⟩:Hp)=H at hu hw ⊢;refine C1.body (E:=E2) (nt:=40) (res:=[.tmp 2]) Tryz.func88 rfl rfl rfl rfl rfl fun tm A0=>?_;have h0:=A0 0 _ rfl;clear A0;have fin:∀ (e:Int) (A:ab) (H3:Hp),slot A.tm 2=.one (.i .i64 e)→A.dfr=[]→Gr H H3→e=dt x→∃ w H4,an E2 [.tmp 2] (.ret,A,H3)=.ok [(w,H4)]∧Gr H H4∧∀ _:List Nat,w=.one (.i .i64 (dt x)):=fun e A H3 h1 h2 h3 h4=>⟨_,H3,ah (.i .i64 e) (.inr rfl) h2 h1,h3,fun _=>by rw[h4]⟩;generalize E0:dt x=r0 at fin;unfold dt at E0;refine qG (qA ad h0) fun K hK=>?_;refine hK _ _ ?_;clear hK K;refine R1.gen (fun A1 H1=>Gr H H1∧H.nx<H1.nx∧H1.get H.nx=some (.arr [u,w] 66 0 0)∧slot A1.tm 1=.one (.o (.ptr H.nx 0 0 2))∧A1.nt=40∧A1.dfr=[])
  ⟨(Fr.refl _).new _,?_⟩ ?_
 ·exact qZ h0
 rintro A1 H1 ⟨g1,n1,rx,t1,B0,C0⟩;clear h0 tm;have Q1:=hu.gr g1;have R3:=hw.gr g1;by_cases h24:(24:Int)<x.1.length
 ·have c24:((24:Int)<x.1.length)=True:=eq_true h24;rw[zB0 (.inl h24)] at E0;refine qW (qA ad (qA t1 (qA B0 (qA rx (qA n1 (qA bm (qA bq (qA bM (qA Q1.len (qA Q1.lt c24)))))))))) ?_;refine qY ?_;refine qW B0 ?_;exact fin 3 _ _ qp (qd C0) g1 E0
 have c24:((24:Int)<x.1.length)=False:=eq_false h24;by_cases h25:(24:Int)<x.2.length
 ·have c25:((24:Int)<x.2.length)=True:=eq_true h25;rw[zB0 (.inr h25)] at E0;refine qW (qA ad (qA t1 (qA B0 (qA rx (qA n1 (qA bm (qA cm (qA bq (qA bM (qA Q1.len (qA Q1.lt (qA R3.len (qA R3.lt (qA c24 c25)))))))))))))) ?_;refine qY ?_;refine qW B0 ?_;exact fin 3 _ _ qp (qd C0) g1 E0
 have c25:((24:Int)<x.2.length)=False:=eq_false h25;rw[zB1 (fun h=>h.elim h24 h25)] at E0;refine qW (qA ad (qA t1 (qA B0 (qA rx (qA n1 (qA bm (qA cm (qA bq (qA bM (qA Q1.len (qA Q1.lt (qA R3.len (qA R3.lt (qA c24 c25)))))))))))))) ?_;refine qY ?_;by_cases hz:x.1.length=0
 ·have cz:((x.1.length:Int)==0)=true:=by rw[hz];rfl
  rw[zB0 hz] at E0;refine qW (qA ad (qA t1 (qA B0 (qA rx (qA n1 (qA bm (qA bq (qA bM (qA Q1.len (qA Q1.lt cz)))))))))) ?_;refine qY ?_;refine qW B0 ?_;exact fin 5 _ _ qp (qd C0) g1 E0
 have cz:((x.1.length:Int)==0)=false:=zB5 (by omega);rw[zB1 hz] at E0;refine qW (qA ad (qA t1 (qA B0 (qA rx (qA n1 (qA bm (qA bq (qA bM (qA Q1.len (qA Q1.lt cz)))))))))) ?_;refine qY ?_;refine R1.aT ?_;refine qG (qA ad (qA t1 (qA B0 (qA rx (qA n1 (qA bm (qA bq wm))))))) fun K hK=>?_;refine WE.con (tt H1 u x.1 false Q1 (by omega)) fun r H2 g2 hr=>?_;subst hr;have rx2:H2.get H.nx=some (.arr [u,w] 66 0 0):=by rw[g2.get _ n1 zB2];exact rx
 have n2:H.nx<H2.nx:=zA0 n1 g2.nx;have g2':=g1.gr g2;refine qS (qA ad B0) ?_;refine hK _ _ ?_;clear hK K;generalize de false [] x.1=e1 at E0 ⊢;by_cases X4:e1=0
 case neg=>
  have ce:(e1 != 0)=true:=bne_iff_ne.2 X4;rw[zB0 X4] at E0;refine qW (qA ad (qA B0 ce)) ?_;refine qE fun Kx Ky hx hy=>?_;refine cY (fun _=>hx ?_) (fun h=>absurd ce (by simpa using h));clear hx hy Kx Ky;refine qW B0 ?_;exact fin e1 _ _ qp (qd C0) g2' E0
 rw[zB1 (fun h=>h X4)] at E0;refine qW (qA ad (qA B0 X4)) ?_;refine qY ?_;refine R1.aT ?_;refine qG (qA ad (qA t1 (qA B0 (qA rx2 (qA n2 (qA cm (qA bq wm))))))) fun K hK=>?_;refine WE.con (tt H2 w x.2 true (R3.gr g2) (by omega)) fun r H3 g3 hr=>?_;subst hr;have rx3:H3.get H.nx=some (.arr [u,w] 66 0 0):=by rw[g3.get _ n2 zB2];exact rx2
 have n3:H.nx<H3.nx:=zA0 n2 g3.nx;have g3':=g2'.gr g3;have m6:=(Q1.gr g2).gr g3;have l6:=(R3.gr g2).gr g3;refine qS (qA ad B0) ?_;refine hK _ _ ?_;clear hK K;generalize de true [] x.2=e2 at E0 ⊢;by_cases B6:e2=0
 case neg=>
  have ce:(e2 != 0)=true:=bne_iff_ne.2 B6;rw[zB0 B6] at E0;refine qW (qA ad (qA B0 ce)) ?_;refine qE fun Kx Ky hx hy=>?_;refine cY (fun _=>hx ?_) (fun h=>absurd ce (by simpa using h));clear hx hy Kx Ky;refine qW B0 ?_;exact fin e2 _ _ qp (qd C0) g3' E0
 rw[zB1 (fun h=>h B6)] at E0;refine qW (qA ad (qA B0 B6)) ?_;refine qY ?_;refine R1.aT ?_;by_cases hp:0<x.2.length
 ·have cp:((0:Int)<x.2.length)=True:=eq_true (by omega);refine qG (qA ad (qA t1 (qA B0 (qA rx3 (qA n3 (qA bm (qA cm (qA bq (qA bM (qA m6.lt (qA l6.len (qA l6.lt (qA cp we))))))))))))) fun K hK=>?_;refine WE.con (tE H3 u x.1 m6 (by omega)) fun r H4 g4 hr=>?_;subst hr;have g4':=g3'.gr g4;refine qS (qA ad B0) ?_;refine hK _ _ ?_;clear hK K;cases hb:kg x.1 with
  | true=>
   rw[zB0 ⟨hp,hb⟩] at E0;refine qY ?_;refine qW B0 ?_;exact fin 24 _ _ qp (qd C0) g4' E0
  | false=>
   rw[zB1 (fun h=>by rw[hb] at h;cases h.2)] at E0;refine qY ?_;refine qW B0 ?_;exact fin 0 _ _ qp (qd C0) g4' E0
 have cp:((0:Int)<x.2.length)=False:=eq_false (by omega);rw[zB1 (fun h=>hp h.1)] at E0;refine qW (qA ad (qA t1 (qA B0 (qA rx3 (qA n3 (qA bm (qA cm (qA bq (qA bM (qA m6.lt (qA l6.len (qA l6.lt cp)))))))))))) ?_;refine qY ?_;refine qW B0 ?_;exact fin 0 _ _ qp (qd C0) g3' E0
end Go.Proofs.YtnhbkodnmkojpaaGreat
end

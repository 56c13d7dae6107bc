/- A part of the proof: BkRef6, BkBooks, BkArg, BkStay, BkFacts4, BkNum1, BkNum2, BkNum3, BkNum4, BkNum5. No conditions. -/
import Derived.Test.YtnhbkodnmkojpaaGreatPAl
import Derived.Carry
import Derived.KernelRfl
set_option maxRecDepth 100000
set_option maxHeartbeats 64000000
namespace Go.Proofs.YtnhbkodnmkojpaaGreat
open Go Go.Eng
theorem By (H:Hp) (v:AC) (bf:List Gd) (x:Gd) (u:AC) (hv:SlG H v bf) (hu:SlS H u x.2.2) (hL:bf.length≤1000000) (hLx:x.2.2.length≤4611686018427387904):
  Con E2 81 [.one v,.agg [.o (.str x.1),.o (.str x.2.1),u]] H (fun _=>False) fun r _=>r=.one (.b (nK bf x)):=by
 refine Con.of rfl fun lg=>?_
 have hv:SlG ⟨H.t,H.nx,lg⟩ v bf:=hv
 have hu:SlS ⟨H.t,H.nx,lg⟩ u x.2.2:=hu
 generalize (⟨H.t,H.nx,lg⟩:Hp)=H at hv hu ⊢
 refine C1.body (E:=E2) (nt:=60) (res:=[.tmp 4]) Tryz.func81 rfl rfl rfl rfl rfl fun tm hargs=>?_
 have h0:=hargs 0 _ rfl
 have h1:=hargs 1 _ rfl
 clear hargs
 refine qG (qA ad h1) fun K hK=>?_
 refine hK _ _ ?_
 clear hK K
 refine R1.gen (fun A1 H1=>Gr H H1∧H.nx<H1.nx∧H1.get H.nx=some (.arr [.o (.str x.1),.o (.str x.2.1),u] 104 0 0)∧slot A1.tm 0=.one v∧slot A1.tm 3=.one (.o (.ptr H.nx 0 0 3))∧A1.nt=60∧A1.dfr=[])
  ⟨(Fr.refl _).new _,?_⟩ ?_
 ·exact qZ h0
 rintro A1 H1 ⟨g1,lb,rb,t0,t3,hnt,hdf⟩
 clear h0 h1 tm
 have hv1:=hv.gr g1
 have hu1:=hu.gr g1
 have fin:∀ (A:ab) (H3:Hp) (b:Bool),slot A.tm 4=.one (.b b)→A.dfr=[]→Gr H H3→b=nK bf x→∃ w H4,ao E2 [.tmp 4] (.ret,A,H3)=.ok [(w,H4)]∧Gr H H4∧∀ _:List Nat,w=.one (.b (nK bf x)):=fun A H3 b h1 h2 h3 h4=>⟨_,H3,ak (.b b) (.inr rfl) h2 h1,h3,fun _=>by rw[h4]⟩
 refine qW hnt ?_
 refine R1.aJ fun K k1 k2 k3 k4=>?_
 refine R1.loop (fun k A H2=>∃ i:Nat,k=x.2.2.length - i∧i≤x.2.2.length∧Gr H1 H2∧(∀ j,j<i→gOK bf x j (x.2.2.getD j [])=true)∧slot A.tm 0=.one v∧slot A.tm 3=.one (.o (.ptr H.nx 0 0 3))∧slot A.tm 5=.one (.i .i64 (i:Int))∧A.nt=60∧A.dfr=[]) ?_ x.2.2.length
  ⟨0,rfl,Nat.zero_le _,Fr.refl _,fun j hj=>absurd hj (Nat.not_lt_zero j),?_⟩
 ·clear t0 t3 hnt hdf A1
  rintro k A H2 ⟨i,rfl,hi,g2,hall,t0,t3,t5,hnt,hdf⟩
  have hu2:=hu1.gr g2
  have hv2:=hv1.gr g2
  have rb:H2.get H.nx=some (.arr [.o (.str x.1),.o (.str x.2.1),u] 104 0 0):=by rw[g2.get _ lb not_false];exact rb
  have lb2:H.nx<H2.nx:=Nat.lt_of_lt_of_le lb g2.nx
  refine qW (qA ad (qA t3 (qA t5 (qA hnt (qA rb (qA lb2 (qA bY (qA di (qA dw (qA hu2.len hu2.lt)))))))))) ?_
  refine qE fun Kx Ky hx hy=>?_
  refine db (fun hc=>hx ?_) (fun hc=>hy ?_)
  ·clear hx hy Kx Ky
   have hlt:i<x.2.2.length:=by omega
   obtain ⟨id,g,off,cells,rfl,hid,hgr,hat⟩:=hu2.open (by omega)
   have ew:x.2.2[i]?=some x.2.2[i]:=List.getElem?_eq_getElem hlt
   have hgd:x.2.2.getD i []=x.2.2[i]:=by rw[List.getD_eq_getElem?_getD,ew];rfl
   generalize x.2.2[i]=s at ew hgd
   obtain ⟨e1,e2⟩:=hat i s ew
   have hw2:IntKind.i64.wrap ((i:Int)+1)=((i+1:Nat):Int):=by rw[aX (by omega) (by omega)];omega
   refine qV ?_
   refine R1.aJ fun K2 q1 q2 q3 q4=>?_
   refine qG (qA ad (qA t0 (qA t3 (qA t5 (qA hnt (qA rb (qA lb2 (qA bY (qA di (qA dz (qA aL (qA (ixC hlt) (qA hid (qA hgr (qA e1 (qA e2 GJ)))))))))))))))) fun K hK=>?_
   refine WE.con (mA H2 v bf s hv2 hL) fun w H3 g3 hw=>?_
   subst hw
   refine qS (qA ad hnt) ?_
   refine hK _ _ ?_
   clear hK K
   have g23:=g2.gr g3
   have g3':=g1.gr g23
   have hv3:=hv1.gr g23
   have rb:H3.get H.nx=some (.arr [.o (.str x.1),.o (.str x.2.1),.o (.sl id g off x.2.2.length 1)] 104 0 0):=by rw[g3.get _ lb2 not_false];exact rb
   have lb:H.nx<H3.nx:=Nat.lt_of_lt_of_le lb g23.nx
   have hid3:id<H3.nx:=Nat.lt_of_lt_of_le hid g3.nx
   have hgr3:rowOf (H3.get id) g=some cells:=by rw[g3.get _ hid not_false];exact hgr
   refine R1.Gh (fun A4=>slot A4.tm 0=.one v∧slot A4.tm 3=.one (.o (.ptr H.nx 0 0 3))∧slot A4.tm 5=.one (.i .i64 (i:Int))∧slot A4.tm 6=.one (.i .i64 (cY 0 bf s))∧A4.nt=60∧A4.dfr=[])
    ⟨by simp only[aa,Nat.reduceEqDiff,reduceIte,t0],by simp only[aa,Nat.reduceEqDiff,reduceIte,t3],by simp only[aa,Nat.reduceEqDiff,reduceIte,t5],by simp only[aa,Nat.reduceEqDiff,reduceIte],by simp only[aA,hnt],by simp only[ag,hdf]⟩ ?_
   clear t0 t3 t5 hnt hdf A
   rintro A ⟨t0,t3,t5,t6,hnt,hdf⟩
   rcases ic 0 bf s with hm|⟨k,y,hy0,hk⟩
   ·have c1:(cY 0 bf s<0)=True:=eq_true (by omega)
    have hno:gOK bf x i s=false:=by
     unfold gOK
     split
     ·rw[decide_eq_true (by omega:cY 0 bf s<0)];rfl
     ·rfl
    refine qG (qA ad (qA t0 (qA t3 (qA t5 (qA t6 (qA hnt (qA rb (qA lb (qA bH (qA dz (qA cw (qA bY (qA aL (qA di (qA dw c1))))))))))))))) fun K hK=>?_
    refine hK _ _ ?_
    clear hK K
    refine qY ?_
    refine qW hnt ?_
    exact q4 _ _ (k4 _ _ (fin _ _ false qp (qd hdf) g3' (iX ew hno).symm))
   ·rw[Nat.zero_add] at hk
    have hkl:k<bf.length:=(List.getElem?_eq_some_iff.1 hy0).1
    have c1:(cY 0 bf s<0)=False:=eq_false (by omega)
    have hgk:gOK bf x i s=(lEq y.2.1 x.2.1&&(!decide (0<(y.2.2.length:Int))&&(!decide (0<(i:Int))||iH (x.2.2.getD (i - 1) []) s))):=by
     unfold gOK
     rw[hk,Int.toNat_natCast,hy0,decide_eq_false (by omega:¬(k:Int)<0)];rfl
    obtain ⟨id',g',off',cells',rfl,hid',hgr',hat'⟩:=hv3.open (by omega)
    obtain ⟨uy,hy1⟩:=hat' k y hy0
    rw[hk] at t6 c1
    cases c2:lEq y.2.1 x.2.1 with
    | false=>
     refine qG (qA ad (qA t0 (qA t3 (qA t5 (qA t6 (qA hnt (qA rb (qA lb (qA bH (qA dz (qA cw (qA bY (qA aL (qA di (qA dw (qA c1 (qA c2 (qA (ixC hkl) (qA hid' (qA hgr' (qA hy1.f2 hy1.le2))))))))))))))))))))) fun K hK=>?_
     refine hK _ _ ?_
     clear hK K
     refine qY ?_
     refine qW hnt ?_
     exact q4 _ _ (k4 _ _ (fin _ _ false qp (qd hdf) g3' (iX ew (by rw[hgk,c2];rfl)).symm))
    | true=>
     by_cases h3:0<(y.2.2.length:Int)
     ·have c3:(0<(y.2.2.length:Int))=True:=eq_true h3
      refine qG (qA ad (qA t0 (qA t3 (qA t5 (qA t6 (qA hnt (qA rb (qA lb (qA bH (qA dz (qA cw (qA bY (qA aL (qA di (qA dw (qA c1 (qA c2 (qA c3 (qA (ixC hkl) (qA hid' (qA hgr' (qA hy1.f2 (qA hy1.le2 (qA hy1.f3 (qA hy1.le3 (qA hy1.of.len hy1.of.lt)))))))))))))))))))))))))) fun K hK=>?_
      refine hK _ _ ?_
      clear hK K
      refine qY ?_
      refine qW hnt ?_
      exact q4 _ _ (k4 _ _ (fin _ _ false qp (qd hdf) g3' (iX ew (by rw[hgk,c2,decide_eq_true h3];rfl)).symm))
     ·have c3:(0<(y.2.2.length:Int))=False:=eq_false h3
      have good:∀ A2:ab,slot A2.tm 0=.one (.o (.sl id' g' off' bf.length 3))→slot A2.tm 3=.one (.o (.ptr H.nx 0 0 3))→slot A2.tm 5=.one (.i .i64 ((i+1:Nat):Int))→A2.nt=60→A2.dfr=[]→gOK bf x i s=true →
        ∃ k',k'<x.2.2.length - i∧∃ i:Nat,k'=x.2.2.length - i∧i≤x.2.2.length∧Gr H1 H3∧(∀ j,j<i→gOK bf x j (x.2.2.getD j [])=true)∧slot A2.tm 0=.one (.o (.sl id' g' off' bf.length 3))∧slot A2.tm 3=.one (.o (.ptr H.nx 0 0 3))∧slot A2.tm 5=.one (.i .i64 (i:Int))∧A2.nt=60∧A2.dfr=[]:=
       fun A2 a b e f g h=>⟨x.2.2.length - (i+1),by omega,i+1,rfl,hlt,g23,fun j hj=>by
        rcases Nat.lt_or_ge j i with h'|h'
        ·exact hall j h'
        ·have:j=i:=by omega
         subst this
         rw[hgd];exact h,a,b,e,f,g⟩
      by_cases h4:0<(i:Int)
      ·have c4:(0<(i:Int))=True:=eq_true h4
       have hlt1:i - 1<x.2.2.length:=by omega
       have ep:x.2.2[i - 1]?=some x.2.2[i - 1]:=List.getElem?_eq_getElem hlt1
       have hpd:x.2.2.getD (i - 1) []=x.2.2[i - 1]:=by rw[List.getD_eq_getElem?_getD,ep];rfl
       generalize x.2.2[i - 1]=sp at ep hpd
       obtain ⟨f1,f2⟩:=hat (i - 1) sp ep
       have hwm:IntKind.i64.wrap ((i:Int) - 1)=((i - 1:Nat):Int):=by rw[aX (by omega) (by omega)];omega
       rw[decide_eq_true h4,hpd] at hgk
       cases c5:iH sp s with
       | false=>
        refine qG (qA ad (qA t0 (qA t3 (qA t5 (qA t6 (qA hnt (qA rb (qA lb (qA bH (qA dz (qA cw (qA bY (qA aL (qA di (qA dw (qA c1 (qA c2 (qA c3 (qA c4 (qA c5 (qA hwm (qA (ixC hkl) (qA (ixC hlt1) (qA (ixC hlt) (qA hid' (qA hgr' (qA hy1.f2 (qA hy1.le2 (qA hy1.f3 (qA hy1.le3 (qA hy1.of.len (qA hy1.of.lt (qA hid3 (qA hgr3 (qA f1 (qA f2 (qA e1 e2))))))))))))))))))))))))))))))))))))) fun K hK=>?_
        refine hK _ _ ?_
        clear hK K
        refine qY ?_
        refine qW hnt ?_
        exact q4 _ _ (k4 _ _ (fin _ _ false qp (qd hdf) g3' (iX ew (by rw[hgk,c2,c5,decide_eq_false h3];rfl)).symm))
       | true=>
        refine qG (qA ad (qA t0 (qA t3 (qA t5 (qA t6 (qA hnt (qA rb (qA lb (qA bH (qA dz (qA cw (qA bY (qA aL (qA di (qA dw (qA c1 (qA c2 (qA c3 (qA c4 (qA c5 (qA hwm (qA (ixC hkl) (qA (ixC hlt1) (qA (ixC hlt) (qA hid' (qA hgr' (qA hy1.f2 (qA hy1.le2 (qA hy1.f3 (qA hy1.le3 (qA hy1.of.len (qA hy1.of.lt (qA hid3 (qA hgr3 (qA f1 (qA f2 (qA e1 e2))))))))))))))))))))))))))))))))))))) fun K hK=>?_
        refine hK _ _ ?_
        clear hK K
        refine qY ?_
        refine qW hnt ?_
        refine q1 _ _ ?_
        refine qW (qA hnt (qA t5 hw2)) ?_
        refine good _ ?_ ?_ ?_ ?_ ?_ (by rw[hgk,c2,c5,decide_eq_false h3];rfl)
        all_goals simp only[aa,aA,ag,Nat.reduceEqDiff,reduceIte,t0,t3,hnt,hdf]
      ·have c4:(0<(i:Int))=False:=eq_false h4
       rw[decide_eq_false h4] at hgk
       refine qG (qA ad (qA t0 (qA t3 (qA t5 (qA t6 (qA hnt (qA rb (qA lb (qA bH (qA dz (qA cw (qA bY (qA aL (qA di (qA dw (qA c1 (qA c2 (qA c3 (qA c4 (qA (ixC hkl) (qA hid' (qA hgr' (qA hy1.f2 (qA hy1.le2 (qA hy1.f3 (qA hy1.le3 (qA hy1.of.len hy1.of.lt))))))))))))))))))))))))))) fun K hK=>?_
       refine hK _ _ ?_
       clear hK K
       refine qY ?_
       refine qW hnt ?_
       refine q1 _ _ ?_
       refine qW (qA hnt (qA t5 hw2)) ?_
       refine good _ ?_ ?_ ?_ ?_ ?_ (by rw[hgk,c2,decide_eq_false h3];rfl)
       all_goals simp only[aa,aA,ag,Nat.reduceEqDiff,reduceIte,t0,t3,hnt,hdf]
  ·clear hx hy Kx Ky
   have hie:i=x.2.2.length:=by omega
   refine qW hnt ?_
   refine k2 _ _ ?_
   refine qW hnt ?_
   refine fin _ _ true qp (qd hdf) (g1.gr g2) ?_
   exact (List.all_eq_true.2 fun j hj=>hall j (by have:=List.mem_range.1 hj;omega)).symm
 ·simp only[aa,Nat.reduceEqDiff,reduceIte,aA,ag,t0,t3,hnt,hdf,and_self,true_and]
  exact ⟨rfl,trivial⟩
def pP (H:Hp) (p:AC):Option (List Lad)→Prop
 | some ls=>RBk H p ls
 | none=>p=.o .nilP
theorem Ml:Tryz.prog.underlying 30=some (.pointer 145):=by kernel_rfl
theorem sJ (H:Hp) (p v:AC) (o:Option (List Lad)) (gs:List Gd) (hp:pP H p o) (hL:∀ ls,o=some ls→(∀ x∈ls,x.2.length≤1000000)∧ls.length≤1000000) (hv:SlG H v gs) (hB:∀ x∈gs,x.2.2.length≤4611686018427387904):
  Con E2 32 [.one p,.one v] H (fun _=>False) fun r _=>r=.one (.i .i64 (jy o gs)):=by
 refine Con.of rfl fun lg=>?_
 have hp:pP ⟨H.t,H.nx,lg⟩ p o:=by cases o <;> exact hp
 have hv:SlG ⟨H.t,H.nx,lg⟩ v gs:=hv
 generalize (⟨H.t,H.nx,lg⟩:Hp)=H at hp hv ⊢
 refine C1.body (E:=E2) (nt:=59) (res:=[.tmp 4]) Tryz.func32 rfl rfl rfl rfl rfl fun tm hargs=>?_
 have h0:=hargs 0 _ rfl
 have h1:=hargs 1 _ rfl
 clear hargs
 have fin:∀ (e:Int) (A:ab) (H3:Hp),slot A.tm 4=.one (.i .i64 e)→A.dfr=[]→Gr H H3→e=jy o gs→∃ w H4,ao E2 [.tmp 4] (.ret,A,H3)=.ok [(w,H4)]∧Gr H H4∧∀ _:List Nat,w=.one (.i .i64 (jy o gs)):=fun e A H3 h1 h2 h3 h4=>⟨_,H3,ak (.i .i64 e) (.inr rfl) h2 h1,h3,fun _=>by rw[h4]⟩
 cases o with
 | none=>
  have hp:p=.o .nilP:=hp
  subst hp
  refine qV ?_
  repeat refine R1.aw ?_
  refine R1.ns fun K hK=>?_
  simp only[qB,au,Nat.reduceLT,ad,h0,nf,Eb,vK Ml,Jd]
  refine hK _ _ ?_
  clear hK K
  refine qY ?_
  refine qV ?_
  exact fin 1 _ _ qp rfl (Fr.refl _) rfl
 | some ls=>
  have hp:RBk H p ls:=hp
  obtain ⟨kb,lad,rfl,b1,b2,b3⟩:=id hp
  refine qV ?_
  repeat refine R1.aw ?_
  refine R1.ns fun K hK=>?_
  simp only[qB,au,Nat.reduceLT,ad,h0,nf,lC]
  refine hK _ _ ?_
  clear hK K
  refine qY ?_
  by_cases h32:(32:Int)<gs.length
  ·have c32:((32:Int)<gs.length)=True:=eq_true h32
   refine qW (qA ad (qA h1 (qA eR (qA hv.len (qA hv.lt c32))))) ?_
   refine qY ?_
   refine qV ?_
   exact fin 3 _ _ qp rfl (Fr.refl _) (if_pos h32).symm
  ·have c32:((32:Int)<gs.length)=False:=eq_false h32
   have hck:jy (some ls) gs=goG ls [] gs:=if_neg h32
   generalize hr0:goG ls [] gs=r0 at hck
   obtain ⟨hL,hL2⟩:=hL ls rfl
   refine qW (qA ad (qA h1 (qA eR (qA hv.len (qA hv.lt c32))))) ?_
   refine qY ?_
   refine qW ad ?_
   refine R1.aJ fun K k1 k2 k3 k4=>?_
   refine R1.loop (fun k A H2=>∃ i:Nat,k=gs.length - i∧i≤gs.length∧Gr H H2∧goG ls (gs.take i) (gs.drop i)=r0∧slot A.tm 0=.one (.o (.ptr kb 0 0 2))∧slot A.tm 1=.one v∧slot A.tm 5=.one (.i .i64 (i:Int))∧A.nt=59∧A.dfr=[]) ?_ gs.length
    ⟨0,rfl,Nat.zero_le _,Fr.refl _,hr0,?_⟩
   ·clear h0 h1 tm
    rintro k A H2 ⟨i,rfl,hi,g2,hr,t0,t1,t5,hnt,hdf⟩
    have hv2:=hv.gr g2
    refine qW (qA ad (qA t1 (qA t5 (qA hnt (qA eR (qA hv2.len hv2.lt)))))) ?_
    refine qE fun Kx Ky hx hy=>?_
    refine db (fun hc=>hx ?_) (fun hc=>hy ?_)
    ·clear hx hy Kx Ky
     have hlt:i<gs.length:=by omega
     obtain ⟨id,g,off,cells,rfl,hid,hgr,hat⟩:=hv2.open (by omega)
     have ex:gs[i]?=some gs[i]:=List.getElem?_eq_getElem hlt
     have hdr:gs.drop i=gs[i]::gs.drop (i+1):=List.drop_eq_getElem_cons hlt
     have htk:gs.take (i+1)=gs.take i++[gs[i]]:=List.take_succ_eq_append_getElem hlt
     have hmem:gs[i]∈gs:=List.getElem_mem hlt
     generalize gs[i]=x at ex hdr htk hmem
     obtain ⟨u,hx1⟩:=hat i x ex
     have hw2:IntKind.i64.wrap ((i:Int)+1)=((i+1:Nat):Int):=by rw[aX (by omega) (by omega)];omega
     have htl:(gs.take i).length≤1000000:=by rw[List.length_take];omega
     rw[hdr,goG] at hr
     refine qV ?_
     refine R1.aJ fun K2 q1 q2 q3 q4=>?_
     refine qG (qA ad (qA t1 (qA t5 (qA hnt (qA bH (qA fb (qA aL (qA (ixC hlt) (qA hid (qA hgr (qA hx1.f1 (qA hx1.le1 kr)))))))))))) fun K hK=>?_
     refine WE.con (dE H2 x.1) fun w H4 g4 hw=>?_
     subst hw
     have g4':=g2.gr g4
     have hv4:=hv2.gr g4
     have hid4:id<H4.nx:=Nat.lt_of_lt_of_le hid g4.nx
     have hgr4:rowOf (H4.get id) g=some cells:=by rw[g4.get _ hid not_false];exact hgr
     cases hnm:nmB x.1 with
     | false=>
      rw[if_pos hnm] at hr
      refine qS (qA ad hnt) ?_
      refine hK _ _ ?_
      clear hK K
      refine qY ?_
      refine qW hnt ?_
      exact q4 _ _ (k4 _ _ (fin 50 _ _ qp (qd hdf) g4' (by rw[hck,←hr])))
     | true=>
      rw[if_neg (by rw[hnm];decide)] at hr
      have htk4:=SlR.take hv4 (n:=i) (by omega)
      refine qS (qA ad (qA t1 (qA t5 (qA hnt (qA bH (qA fb (qA aL (qA (ixC hlt) (qA hid4 (qA hgr4 (qA hx1.f1 (qA hx1.le1 (qA GJ (slH (Nat.le_of_lt hlt))))))))))))))) ?_
      refine WE.con (mA H4 _ (gs.take i) x.1 htk4 htl) fun w H5 g5 hw=>?_
      subst hw
      have g5':=g4'.gr g5
      have hid5:id<H5.nx:=Nat.lt_of_lt_of_le hid4 g5.nx
      have hgr5:rowOf (H5.get id) g=some cells:=by rw[g5.get _ hid4 not_false];exact hgr4
      by_cases hge:0≤cY 0 (gs.take i) x.1
      ·have cge:(0≤cY 0 (gs.take i) x.1)=True:=eq_true hge
       rw[if_pos hge] at hr
       refine qS (qA ad (qA hnt cge)) ?_
       refine hK _ _ ?_
       clear hK K
       refine qY ?_
       refine qW hnt ?_
       exact q4 _ _ (k4 _ _ (fin 50 _ _ qp (qd hdf) g5' (by rw[hck,←hr])))
      ·have cge:(0≤cY 0 (gs.take i) x.1)=False:=eq_false hge
       rw[if_neg hge] at hr
       refine qS (qA ad (qA hnt cge)) ?_
       refine hK _ _ ?_
       clear hK K
       refine qY ?_
       refine R1.aS ?_
       have hp5:RBk H5 (.o (.ptr kb 0 0 2)) ls:=hp.gr g5'
       refine qG (qA ad (qA t0 (qA t1 (qA t5 (qA hnt (qA bH (qA cw (qA aL (qA (ixC hlt) (qA hid5 (qA hgr5 (qA hx1.f2 (qA hx1.le2 HT))))))))))))) fun K hK=>?_
       refine WE.con (sc H5 _ ls x.2.1 hp5 hL hL2) fun w H6 g6 ⟨c,hw,ha,hcl⟩=>?_
       subst hw
       have g6':=g5'.gr g6
       refine qS (qA ad (qA hnt (qA dI (qA fu hcl)))) ?_
       refine hK _ _ ?_
       clear hK K
       have g7:Gr H6 ((H6.new (.arr [.o (.str []),.o .nilS] 97 0 0)).mod H6.nx (.arr c 97 0 0)):=((Fr.refl _).new _).mod _ (.inl (Nat.le_refl _))
       have g57:Gr H5 ((H6.new (.arr [.o (.str []),.o .nilS] 97 0 0)).mod H6.nx (.arr c 97 0 0)):=g6.gr g7
       have g7':=g6'.gr g7
       generalize ((H6.new (.arr [.o (.str []),.o .nilS] 97 0 0)).mod H6.nx (.arr c 97 0 0))=H7 at g57 g7' ⊢
       have hid7:id<H7.nx:=Nat.lt_of_lt_of_le hid5 g57.nx
       have hgr7:rowOf (H7.get id) g=some cells:=by rw[g57.get _ hid5 not_false];exact hgr5
       refine qW (qA ad hnt) ?_
       refine qE fun Kx Ky hx hy=>?_
       refine db (fun hd=>hx ?_) (fun hd=>hy ?_)
       ·clear hx hy Kx Ky
        have hne:fM (some ls) x.2.1≠0:=by simpa using hd
        rw[if_pos hne] at hr
        refine qW hnt ?_
        exact q4 _ _ (k4 _ _ (fin 4 _ _ qp (qd hdf) g7' (by rw[hck,←hr])))
       ·clear hx hy Kx Ky
        have hz:fM (some ls) x.2.1=0:=by simpa using hd
        rw[if_neg (fun h=>h hz)] at hr
        have hv7:SlG H7 (.o (.sl id g off gs.length 3)) gs:=hv.gr g7'
        have hu7:SlS H7 u x.2.2:=((hx1.of.gr g4).gr g5).gr g57
        have htk7:=SlR.take hv7 (n:=i) (by omega)
        refine R1.aS ?_
        refine qG (qA ad (qA t1 (qA t5 (qA hnt (qA mw (qA bH (qA (ixC hlt) (qA hid7 (qA hgr7 (qA hx1.all (qA hx1.le (qA (slH (Nat.le_of_lt hlt)) Fp)))))))))))) fun K hK=>?_
        refine WE.con (By H7 _ (gs.take i) x u htk7 hu7 htl (hB x hmem)) fun w H8 g8 hw=>?_
        subst hw
        have g8':=g7'.gr g8
        refine qS (qA ad hnt) ?_
        refine hK _ _ ?_
        clear hK K
        cases hgt:nK (gs.take i) x with
        | false=>
         rw[if_pos hgt] at hr
         refine qY ?_
         refine qW hnt ?_
         exact q4 _ _ (k4 _ _ (fin 50 _ _ qp (qd hdf) g8' (by rw[hck,←hr])))
        | true=>
         rw[if_neg (by rw[hgt];decide),←htk] at hr
         refine qY ?_
         refine qW hnt ?_
         refine q1 _ _ ?_
         refine qW (qA hnt (qA t5 hw2)) ?_
         refine ⟨gs.length - (i+1),by omega,i+1,rfl,hlt,g8',hr,?_,?_,?_,?_,?_⟩
         ·simp only[aa,Nat.reduceEqDiff,reduceIte,t0]
         ·simp only[aa,Nat.reduceEqDiff,reduceIte,t1]
         ·simp only[aa,Nat.reduceEqDiff,reduceIte]
         ·simp only[aA,hnt]
         ·simp only[ag,hdf]
    ·clear hx hy Kx Ky
     have hie:i=gs.length:=by omega
     rw[hie,List.drop_length,goG] at hr
     refine qW hnt ?_
     refine k2 _ _ ?_
     refine qW hnt ?_
     exact fin 0 _ _ qp (qd hdf) g2 (by rw[hck,←hr])
   ·simp only[aa,Nat.reduceEqDiff,reduceIte,aA,ag,h0,h1,and_self,true_and]
    exact ⟨rfl,trivial⟩
end Go.Proofs.YtnhbkodnmkojpaaGreat
namespace Go.Proofs.YtnhbkodnmkojpaaGreat
open Go Go.Eng
theorem Pn:al Tryz.prog 7=true:=by kernel_rfl
theorem JP:∀ (acc ls:List Lad),oU acc ls=0→∀ x∈ls,aP x.1 x.2=0
 | _,[],_=>fun _ h=>absurd h (List.not_mem_nil)
 | acc,y::ls,h=>by
  rw[oU] at h
  by_cases hc:aP y.1 y.2≠0
  ·rw[if_pos hc] at h;exact absurd h hc
  ·rw[if_neg hc] at h
   by_cases hi:(gp 0 acc y.1).isSome=true
   ·rw[if_pos hi] at h;cases h
   ·rw[if_neg hi] at h
    intro x hx
    rcases List.mem_cons.1 hx with rfl|hx
    ·exact Classical.not_not.1 hc
    ·exact JP _ ls h x hx
theorem TC {ls:List Lad} (h:mv ls=0):ls.length≤32∧∀ x∈ls,x.2.length≤12:=by
 unfold mv at h
 by_cases hc:(32:Int)<ls.length
 ·rw[if_pos hc] at h;cases h
 ·rw[if_neg hc] at h
  exact ⟨by omega,fun x hx=>iz (JP [] ls h x hx)⟩
def bkO (ls:List Lad):Option (List Lad):=if mv ls=0 then some ls else none
theorem Pu {ls l:List Lad} (h:bkO ls=some l):l.length≤32∧∀ x∈l,x.2.length≤12:=by
 unfold bkO at h
 by_cases hc:mv ls=0
 ·rw[if_pos hc] at h;cases h;exact TC hc
 ·rw[if_neg hc] at h;cases h
theorem pP.same {H H':Hp} {p:AC} {o:Option (List Lad)} (ht:H'.t=H.t) (hn:H'.nx=H.nx) (h:pP H p o):pP H' p o:=by
 obtain ⟨t,nx,l⟩:=H
 obtain ⟨t',nx',l'⟩:=H'
 cases ht;cases hn
 cases o <;> exact h
theorem pP.gr {H H':Hp} {p:AC} {o:Option (List Lad)} (h:pP H p o) (hg:Gr H H'):pP H' p o:=by
 cases o with
 | some ls=>exact RBk.gr h hg
 | none=>exact h
theorem Ny (H:Hp) (v:AC) (ls:List Lad) (hl:eQ H v ls):
  Con E2 7 [.one v] H (fun _=>False) fun r H'=>∃ p q,r=.tup [(false,[p]),(false,[q])]∧cT H' p (bkO ls)∧pP H' q (bkO ls)∧(bkO ls=none→p=.o .nilP):=by
 refine Con.of rfl fun lg=>?_
 have hl:eQ ⟨H.t,H.nx,lg⟩ v ls:=hl
 generalize (⟨H.t,H.nx,lg⟩:Hp)=H at hl ⊢
 refine C1.body (E:=E2) (nt:=20) (res:=[.tmp 2,.tmp 3]) Tryz.func7 rfl rfl rfl rfl rfl fun tm hargs=>?_
 have h0:=hargs 0 _ rfl
 clear hargs
 refine qW ad ?_
 refine qG (qA ad (qA h0 IB)) fun K hK=>?_
 refine WE.con (Dt H v ls hl) fun w H1 g1 ⟨p,hw,hp1,hp2⟩=>?_
 subst hw
 refine qT ?_
 refine hK _ _ ?_
 clear hK K
 refine qG (qA ad (qA h0 Sr)) fun K hK=>?_
 refine WE.con (Oa H1 v ls (hl.gr g1)) fun w H2 g2 ⟨q,hw,hq1,hq2⟩=>?_
 subst hw
 refine qT ?_
 refine hK _ _ ?_
 clear hK K
 refine qV ?_
 refine ⟨_,_,aZ p q (.inr rfl) rfl qp qp,g1.gr g2,fun _=>⟨p,q,rfl,?_,?_,?_⟩⟩
 ·refine cT.same (H:=H2) rfl rfl ?_
  unfold bkO
  by_cases hc:mv ls=0
  ·rw[if_pos hc];exact (hp1 hc).gr g2
  ·rw[if_neg hc];exact .inl (hp2 hc)
 ·refine pP.same (H:=H2) rfl rfl ?_
  unfold bkO
  by_cases hc:mv ls=0
  ·rw[if_pos hc];exact hq1 hc
  ·rw[if_neg hc];exact hq2 hc
 ·unfold bkO
  by_cases hc:mv ls=0
  ·rw[if_pos hc];intro h;cases h
  ·exact fun _=>hp2 hc
end Go.Proofs.YtnhbkodnmkojpaaGreat
namespace Go.Proofs.YtnhbkodnmkojpaaGreat
open Go Go.Eng Go.ChangeShapes Go.WideShapes
abbrev TM:=fh tC (wu .i64)
abbrev AW:=ri Tryz.prog 165 2 TM
abbrev Vm:=fh tC AW
abbrev Lm:=ri Tryz.prog 97 2 Vm
abbrev Bv:=ri Tryz.prog 9 1 tC
abbrev Up:=fh tC (fh tC Bv)
abbrev Br:=ri Tryz.prog 104 3 Up
theorem zc:jr AW:=mO (cu ct dL)
theorem yd:jr Bv:=mO ct
theorem QQ {W:World}:Opn Tryz.prog W 2 TM 165:=dK Tryz.underlying165 (by kernel_rfl) rfl (ca (gh Tryz.underlying9) ct (fH (iV Tryz.underlying3)))
theorem Nf {W:World} (hB:jD W):Opn Tryz.prog W 1 AW 95:=ff Tryz.underlying95 (by kernel_rfl) (by decide) (cu ct dL) hB QQ
theorem Si {W:World} (hB:jD W):Opn Tryz.prog W 2 Vm 97:=dK Tryz.underlying97 (by kernel_rfl) rfl (ca (gh Tryz.underlying9) ct (fH (Nf hB)))
theorem NY {W:World} (hB:jD W):Opn Tryz.prog W 1 Lm 22:=ff Tryz.underlying22 (by kernel_rfl) (by decide) (cu ct zc) hB (Si hB)
theorem Nq {W:World} (hB:jD W):Opn Tryz.prog W 1 Bv 102:=ff Tryz.underlying102 (by kernel_rfl) (by decide) ct hB (gh Tryz.underlying9)
theorem Qt {W:World} (hB:jD W):Opn Tryz.prog W 3 Up 104:=dK Tryz.underlying104 (by kernel_rfl) rfl (ca (gh Tryz.underlying9) ct (ca (gh Tryz.underlying9) ct (fH (Nq hB))))
theorem Mf {W:World} (hB:jD W):Opn Tryz.prog W 1 Br 23:=ff Tryz.underlying23 (by kernel_rfl) (by decide) (cu ct (cu ct yd)) hB (Qt hB)
theorem GV:Tryz.prog.bytesOf 9=16:=by kernel_rfl
theorem AD:Tryz.prog.bytesOf 104=56:=by kernel_rfl
theorem DN:Tryz.prog.bytesOf 97=40:=by kernel_rfl
theorem PY {B:Nat} {H:Hp} {c:List AC} {us:List Pr} (h:AW B H c us):∃ u,c=[u]∧SlP H u us:=by
 obtain ⟨u,rfl,⟨css,h1,h2⟩,_⟩:=h
 refine ⟨u,rfl,?_⟩
 have:=mK (f:=prC) (h2.mono fun c x ⟨_,c1,c2,e,a,b⟩=>by rw[e,a.1,b.1];rfl)
 rw[this] at h1
 exact h1
theorem GL {B:Nat} {H:Hp} {c:List AC} {us:List (List UInt8)} (h:Bv B H c us):∃ u,c=[u]∧SlS H u us∧us.length*16≤B:=by
 obtain ⟨u,rfl,⟨css,h1,h2⟩,h3⟩:=h
 refine ⟨u,rfl,?_,by rwa [GV] at h3⟩
 have:=mK (f:=TA) (h2.mono fun c x ⟨_,e,_⟩=>e)
 rw[this] at h1
 exact h1
theorem To {B:Nat} {H:Hp} {u:AC} {ls:List Lad} (h:Lm B H [u] ls):eQ H u ls∧ls.length*40≤B:=by
 obtain ⟨u,e,⟨css,h1,h2⟩,h3⟩:=h
 cases e
 refine ⟨⟨css,h1,h2.mono fun c x ⟨hl,c1,c2,e,a,b⟩=>⟨hl,?_⟩⟩,by rwa [DN] at h3⟩
 obtain ⟨u,rfl,hu⟩:=PY b
 exact ⟨u,by rw[e,a.1];rfl,hu⟩
theorem FU {B:Nat} {H:Hp} {u:AC} {gs:List Gd} (h:Br B H [u] gs):SlG H u gs∧gs.length*56≤B∧∀ x∈gs,x.2.2.length*16≤B:=by
 obtain ⟨u,e,⟨css,h1,h2⟩,h3⟩:=h
 cases e
 refine ⟨⟨css,h1,h2.mono fun c x ⟨hl,c1,c2,e,a,c3,c4,e2,b,d⟩=>⟨hl,?_⟩⟩,by rwa [AD] at h3,Al.all (fun c x ⟨hl,c1,c2,e,a,c3,c4,e2,b,d⟩=>?_) h2⟩
 ·obtain ⟨u,rfl,hu,_⟩:=GL d
  exact ⟨u,by rw[e,a.1,e2,b.1];rfl,hu⟩
 ·obtain ⟨u,rfl,_,hu⟩:=GL d
  exact hu
end Go.Proofs.YtnhbkodnmkojpaaGreat
namespace Go.Proofs.YtnhbkodnmkojpaaGreat
open Go.ChangeShapes Go.WideShapes Go.ChangeAt Go.RowKit Go.Eng
theorem nD {H:Type} {enc:TypeId×Value→H} {P:Program} (hl:laidOutB P=true) {W W':World} (hb:Below W.heap.size W W') {sp:Nat→Bool}:∀ {ts:List TypeId} {vs:List Value} {ds:List (DataW H)} {ps:List MemPlace},(∀ t∈ts,P.readableRec t=true∧t<P.types.size) →
  DataW.TrodAll enc P W 0 (fun _=>true) true ts vs ds ps→(∀ p∈ps,p.block<W.heap.size)→(∀ p∈ps,sp p.block=true)→DataW.TrodAll enc P W' 0 sp true ts vs ds ps
 | [],vs,ds,ps,_,h,_,_=>by
  obtain ⟨rfl,rfl,rfl⟩:=trodAll_nil h
  exact trodAll_mk0
 | t::ts,vs,ds,ps,hr,h,hlt,hsp=>by
  obtain ⟨v,vs1,d,ds1,a,b,rfl,rfl,rfl,h1,h2⟩:=trodAll_cons h
  refine ⟨a,b,?_,nD hl hb (fun t ht=>hr t (List.mem_cons_of_mem _ ht)) h2 (fun p hp=>hlt p (List.mem_append_right _ hp)) (fun p hp=>hsp p (List.mem_append_right _ hp)),rfl⟩
  exact WideElems.Trod_stays hl (hr t (List.mem_cons_self ..)).1 (hr t (List.mem_cons_self ..)).2 h1 (fun x hx=>hb.same (hlt x (List.mem_append_left _ hx))) (fun x hx=>hsp x (List.mem_append_left _ hx))
theorem Tryz.laidOut:laidOutB Tryz.prog=true:=by kernel_rfl
theorem Cr:reachBytes≤140737488355328:=by decide
end Go.Proofs.YtnhbkodnmkojpaaGreat
namespace Go.Proofs.YtnhbkodnmkojpaaGreat
open Go Go.Eng
theorem jQ:loadT Tryz.prog 37=some (true,2):=by kernel_rfl
theorem yL:aV Tryz.prog 37=some 2:=by kernel_rfl
theorem zP:(aB Tryz.prog 37).map (fun z=>(ofValue z).cells)=some [.o .nilS,.o .nilS]:=by kernel_rfl
theorem yu:aU Tryz.prog 37=4:=by kernel_rfl
theorem sC:aH Tryz.prog 37 0=some (0,34,1):=by kernel_rfl
theorem rF:aH Tryz.prog 37 1=some (1,35,1):=by kernel_rfl
def qs:Nat→Option (Nat×Nat):=fun i=>(#[(0,1),(1,1)]:Array (Nat×Nat))[i]?
theorem yx:cC Tryz.prog 37=some qs:=by kernel_rfl
theorem rG:qs 0=some (0,1):=rfl
theorem sg:qs 1=some (1,1):=rfl
theorem Gv:loadT Tryz.prog 34=some (false,1):=by kernel_rfl
theorem EM:aV Tryz.prog 34=some 1:=by kernel_rfl
theorem Gn:(aB Tryz.prog 34).map (fun z=>(ofValue z).cells)=some [.o .nilS]:=by kernel_rfl
theorem pI:bk Tryz.prog 34=some (84,5):=by kernel_rfl
theorem Ds:ez Tryz.prog 34=some 1:=by kernel_rfl
theorem FM:aU Tryz.prog 34=1:=by kernel_rfl
theorem LL:loadT Tryz.prog 84=some (true,5):=by kernel_rfl
theorem Jk:aV Tryz.prog 84=some 5:=by kernel_rfl
theorem KP:cQ Tryz.prog 84=some 88:=by kernel_rfl
theorem BM:(aB Tryz.prog 84).map (fun z=>(ofValue z).cells)=some [.i .i64 0,.o (.str []),.o (.str []),.o .nilS,.o .nilS]:=by kernel_rfl
theorem KA:∃ z,aB Tryz.prog 84=some z∧(ofValue z).cells.length=5:=by
 have h:=BM
 cases hz:aB Tryz.prog 84 with
 | none=>rw[hz] at h;cases h
 | some z=>
  rw[hz] at h
  exact ⟨z,rfl,by have:(ofValue z).cells=_:=Option.some.inj h;rw[this];rfl⟩
theorem Lh:aU Tryz.prog 84=4:=by kernel_rfl
theorem zq:aH Tryz.prog 84 0=some (0,3,1):=by kernel_rfl
theorem yO:aH Tryz.prog 84 1=some (1,9,1):=by kernel_rfl
theorem qK:aH Tryz.prog 84 2=some (2,9,1):=by kernel_rfl
theorem rA:aH Tryz.prog 84 3=some (3,66,2):=by kernel_rfl
def pq:Nat→Option (Nat×Nat):=fun i=>(#[(0,1),(1,1),(2,1),(3,2)]:Array (Nat×Nat))[i]?
theorem Lj:cC Tryz.prog 84=some pq:=by kernel_rfl
theorem Ae:pq 0=some (0,1):=rfl
theorem zb:pq 1=some (1,1):=rfl
theorem yz:pq 2=some (2,1):=rfl
theorem Aq:pq 3=some (3,2):=rfl
theorem Dz:loadT Tryz.prog 35=some (false,1):=by kernel_rfl
theorem Cy:aV Tryz.prog 35=some 1:=by kernel_rfl
theorem DF:(aB Tryz.prog 35).map (fun z=>(ofValue z).cells)=some [.o .nilS]:=by kernel_rfl
theorem pT:bk Tryz.prog 35=some (86,2):=by kernel_rfl
theorem CZ:ez Tryz.prog 35=some 1:=by kernel_rfl
theorem Fb:aU Tryz.prog 35=1:=by kernel_rfl
theorem Kb:loadT Tryz.prog 86=some (true,2):=by kernel_rfl
theorem Lt:aV Tryz.prog 86=some 2:=by kernel_rfl
theorem JW:cQ Tryz.prog 86=some 32:=by kernel_rfl
theorem BU:(aB Tryz.prog 86).map (fun z=>(ofValue z).cells)=some [.i .i64 0,.o .nilS]:=by kernel_rfl
theorem Lv:∃ z,aB Tryz.prog 86=some z∧(ofValue z).cells.length=2:=by
 have h:=BU
 cases hz:aB Tryz.prog 86 with
 | none=>rw[hz] at h;cases h
 | some z=>
  rw[hz] at h
  exact ⟨z,rfl,by have:(ofValue z).cells=_:=Option.some.inj h;rw[this];rfl⟩
theorem Lp:aU Tryz.prog 86=4:=by kernel_rfl
theorem zh:aH Tryz.prog 86 0=some (0,3,1):=by kernel_rfl
theorem zJ:aH Tryz.prog 86 1=some (1,57,1):=by kernel_rfl
def BQ:Nat→Option (Nat×Nat):=fun i=>(#[(0,1),(1,1)]:Array (Nat×Nat))[i]?
theorem Lc:cC Tryz.prog 86=some BQ:=by kernel_rfl
theorem wP:BQ 0=some (0,1):=rfl
theorem xz:BQ 1=some (1,1):=rfl
theorem iI:loadT Tryz.prog 66=some (true,2):=by kernel_rfl
theorem ow:aV Tryz.prog 66=some 2:=by kernel_rfl
theorem lP:(aB Tryz.prog 66).map (fun z=>(ofValue z).cells)=some [.o .nilS,.o .nilS]:=by kernel_rfl
theorem Bc:aU Tryz.prog 66=4:=by kernel_rfl
theorem bc:aH Tryz.prog 66 0=some (0,64,1):=by kernel_rfl
theorem bT:aH Tryz.prog 66 1=some (1,64,1):=by kernel_rfl
def IC:Nat→Option (Nat×Nat):=fun i=>(#[(0,1),(1,1)]:Array (Nat×Nat))[i]?
theorem vL:cC Tryz.prog 66=some IC:=by kernel_rfl
theorem mf:IC 0=some (0,1):=rfl
theorem lB:IC 1=some (1,1):=rfl
theorem bg:loadT Tryz.prog 64=some (false,1):=by kernel_rfl
theorem KL:aV Tryz.prog 64=some 1:=by kernel_rfl
theorem JT:(aB Tryz.prog 64).map (fun z=>(ofValue z).cells)=some [.o .nilS]:=by kernel_rfl
theorem cd:bk Tryz.prog 64=some (181,3):=by kernel_rfl
theorem bI:ez Tryz.prog 64=some 1:=by kernel_rfl
theorem sY:aU Tryz.prog 64=1:=by kernel_rfl
theorem dc:loadT Tryz.prog 181=some (true,3):=by kernel_rfl
theorem oD:aV Tryz.prog 181=some 3:=by kernel_rfl
theorem tx:cQ Tryz.prog 181=some 32:=by kernel_rfl
theorem jn:(aB Tryz.prog 181).map (fun z=>(ofValue z).cells)=some [.i .i64 0,.o (.str []),.b false]:=by kernel_rfl
theorem Bh:∃ z,aB Tryz.prog 181=some z∧(ofValue z).cells.length=3:=by
 have h:=jn
 cases hz:aB Tryz.prog 181 with
 | none=>rw[hz] at h;cases h
 | some z=>
  rw[hz] at h
  exact ⟨z,rfl,by have:(ofValue z).cells=_:=Option.some.inj h;rw[this];rfl⟩
theorem PL:aU Tryz.prog 181=4:=by kernel_rfl
theorem dX:aH Tryz.prog 181 0=some (0,3,1):=by kernel_rfl
theorem er:aH Tryz.prog 181 1=some (1,9,1):=by kernel_rfl
theorem gk:aH Tryz.prog 181 2=some (2,4,1):=by kernel_rfl
def Bf:Nat→Option (Nat×Nat):=fun i=>(#[(0,1),(1,1),(2,1)]:Array (Nat×Nat))[i]?
theorem Cg:cC Tryz.prog 181=some Bf:=by kernel_rfl
theorem Gz:Bf 0=some (0,1):=rfl
theorem GD:Bf 1=some (1,1):=rfl
theorem EN:Bf 2=some (2,1):=rfl
theorem Ge:loadT Tryz.prog 238=some (false,1):=by kernel_rfl
theorem GK:aV Tryz.prog 238=some 1:=by kernel_rfl
theorem Hf:(aB Tryz.prog 238).map (fun z=>(ofValue z).cells)=some [.o .nilS]:=by kernel_rfl
theorem GZ:bk Tryz.prog 238=some (4,1):=by kernel_rfl
theorem EV:ez Tryz.prog 238=some 1:=by kernel_rfl
theorem GI:aU Tryz.prog 238=1:=by kernel_rfl
theorem HD:eqK Tryz.prog 181=some [.i,.s,.b]:=by kernel_rfl
end Go.Proofs.YtnhbkodnmkojpaaGreat
namespace Go.Proofs.YtnhbkodnmkojpaaGreat
open Go Go.Eng
theorem tP:al Tryz.prog 118=true:=by kernel_rfl
theorem ji:al Tryz.prog 157=true:=by kernel_rfl
theorem wZ:al Tryz.prog 66=true:=by kernel_rfl
theorem vc:al Tryz.prog 89=true:=by kernel_rfl
theorem nw:al Tryz.prog 117=true:=by kernel_rfl
theorem vm:al Tryz.prog 156=true:=by kernel_rfl
theorem UT:al Tryz.prog 184=true:=by kernel_rfl
theorem sd:al Tryz.prog 65=true:=by kernel_rfl
theorem pz:al Tryz.prog 88=true:=by kernel_rfl
abbrev Gp:=Int×List UInt8×Bool
def gpC (x:Gp):List AC:=[.i .i64 x.1,.o (.str x.2.1),.b x.2.2]
theorem bZ (x:Gp):gpC x=[.i .i64 x.1,.o (.str x.2.1),.b x.2.2]:=by unfold gpC;rfl
theorem sV (x:Gp):(gpC x).length=3:=rfl
def aD (H:Hp) (v:AC) (l:List Gp):Prop:=SlC H v 3 l.length (l.flatMap gpC)
theorem aD.gr {H H':Hp} {v:AC} {l:List Gp} (h:aD H v l) (hg:Gr H H'):aD H' v l:=SlC.gr h hg
theorem aD.len {H:Hp} {v:AC} {l:List Gp} (h:aD H v l):cS H 1 (.one v)=.val (.one (.i .i64 (l.length:Int))) H:=SlC.len h
theorem aD.lt {H:Hp} {v:AC} {l:List Gp} (h:aD H v l):ltV (.one v) H.nx:=nj h
theorem aD.nil {H:Hp}:aD H (.o .nilS) []:=⟨by simp,.inl ⟨rfl,rfl⟩⟩
structure GpAt (cells:List AC) (o:Nat) (x:Gp):Prop where
 all:(cells.drop o).take 3=gpC x
 le:o+3≤cells.length
 le1:o+1≤cells.length
 le2:o+1+1≤cells.length
 le3:o+2+1≤cells.length
 f1:(cells.drop o).headD (.b false)=.i .i64 x.1
 f2:(cells.drop (o+1)).headD (.b false)=.o (.str x.2.1)
 f3:(cells.drop (o+2)).headD (.b false)=.b x.2.2
theorem aD.open {H:Hp} {v:AC} {l:List Gp} (h:aD H v l) (hn:0<l.length):∃ id g off cells,v=.o (.sl id g off l.length 3)∧id<H.nx∧rowOf (H.get id) g=some cells∧∀ (i:Nat) (x:Gp),l[i]?=some x→GpAt cells (off+i*3) x:=by
 obtain ⟨id,g,off,h1,h2,hr⟩:=SlC.pos h hn
 have hr':=hr
 obtain ⟨cells,h3,h6,h7⟩:=hr
 refine ⟨id,g,off,cells,h1,h2,h3,fun i x hx=>?_⟩
 obtain ⟨cells',k3,k6,k7⟩:=Rd.at (c:=gpC) sV hr' hx
 rw[h3] at k3
 cases k3
 obtain ⟨a,b,c⟩:=Ud k7
 exact ⟨k7,k6,by omega,by omega,by omega,a,b,c⟩
theorem aD.take {H:Hp} {id g off:Nat} {l:List Gp} (h:aD H (.o (.sl id g off l.length 3)) l) {n:Nat} (hn:n≤l.length):aD H (.o (.sl id g off n 3)) (l.take n):=by
 have hl:(l.take n).length=n:=by rw[List.length_take];omega
 refine ⟨by rw[qi sV],?_⟩
 rcases h.2 with ⟨e,_⟩|⟨id',g',off',e,hid,hr⟩
 ·cases e
 ·cases e
  refine .inr ⟨id,g,off,by rw[hl],hid,?_⟩
  have:=hr.part 0 (n*3) (by omega)
  rw[List.drop_zero,Nat.add_zero] at this
  rw[hl]
  have e:(l.take n).flatMap gpC=(l.flatMap gpC).take (n*3):=by
   have h1:l.flatMap gpC=(l.take n).flatMap gpC++(l.drop n).flatMap gpC:=by rw[←List.flatMap_append,List.take_append_drop]
   exact ((congrArg (List.take (n*3)) h1).trans (by rw[List.take_append_of_le_length (by rw[qi sV,hl];exact Nat.le_refl _),List.take_of_length_le (by rw[qi sV,hl];exact Nat.le_refl _)])).symm
  rw[e]
  exact this
def nq (x:Gp):Bool:=x.1==0&&(x.2.1==[]&&(x.2.2==false&&true))
def kZ (l:List Gp):Bool:=l.any fun x=>nq x||x.2.2
theorem oX (H:Hp) (x:Gp):Con E2 118 [.agg (gpC x)] H (fun _=>False) fun r _=>r=.one (.b (nq x)):=by
 refine Con.of rfl fun lg=>?_
 generalize (⟨H.t,H.nx,lg⟩:Hp)=H
 refine C1.body (E:=E2) (nt:=6) (res:=[.tmp 2]) Tryz.func118 rfl rfl rfl rfl rfl fun tm hargs=>?_
 have h0:=hargs 0 _ rfl
 clear hargs
 repeat' first|refine R1.ret ?_|refine R1.exit ?_|refine R1.skip ?_|refine R1.oP ?_|refine R1.kQ ?_|refine R1.aw ?_|refine R1.aS ?_|refine R1.gW ?_|((first|refine R1.Dl fun K hK=>?_|refine R1.ns fun K hK=>?_|refine R1.ID (by kernel_rfl) fun K hK=>?_|refine R1.Cu (by kernel_rfl) fun K hK=>?_);simp only[qB,au,Nat.reduceLT,Nat.reduceAdd,ad,h0,gpC,dc,jn,Cg,Ab HD];refine hK _ _ ?_;clear hK K)
 exact ⟨_,_,ak (.b (nq x)) (.inr rfl) rfl (by simp only[aa,Nat.reduceEqDiff,reduceIte,nq,id_eq]),(Fr.refl _).new _,fun _=>rfl⟩
theorem gE (H:Hp) (x:Gp):Con E2 157 [.agg (gpC x)] H (fun _=>False) fun r _=>r=.one (.b (nq x)):=by
 refine Con.of rfl fun lg=>?_
 generalize (⟨H.t,H.nx,lg⟩:Hp)=H
 refine C1.body (E:=E2) (nt:=6) (res:=[.tmp 2]) Tryz.func157 rfl rfl rfl rfl rfl fun tm hargs=>?_
 have h0:=hargs 0 _ rfl
 clear hargs
 repeat' first|refine R1.ret ?_|refine R1.exit ?_|refine R1.skip ?_|refine R1.oP ?_|refine R1.kQ ?_|refine R1.aw ?_|refine R1.aS ?_|refine R1.gW ?_|((first|refine R1.Dl fun K hK=>?_|refine R1.ns fun K hK=>?_|refine R1.ID (by kernel_rfl) fun K hK=>?_|refine R1.Cu (by kernel_rfl) fun K hK=>?_);simp only[qB,au,Nat.reduceLT,Nat.reduceAdd,ad,h0,gpC,dc,jn,Cg,Ab HD];refine hK _ _ ?_;clear hK K)
 exact ⟨_,_,ak (.b (nq x)) (.inr rfl) rfl (by simp only[aa,Nat.reduceEqDiff,reduceIte,nq,id_eq]),(Fr.refl _).new _,fun _=>rfl⟩
theorem uI (H:Hp) (v:AC) (l:List Gp) (hv:aD H v l) (hL:l.length≤1000000):
  Con E2 66 [.one v] H (fun _=>False) fun r _=>r=.one (.b (kZ l)):=by
 refine Con.of rfl fun lg=>?_
 have hv:aD ⟨H.t,H.nx,lg⟩ v l:=hv
 generalize (⟨H.t,H.nx,lg⟩:Hp)=H at hv ⊢
 refine C1.body (E:=E2) (nt:=18) (res:=[.tmp 2]) Tryz.func66 rfl rfl rfl rfl rfl fun tm hargs=>?_
 have h0:=hargs 0 _ rfl
 clear hargs
 have fin:∀ (b:Bool) (A:ab) (H3:Hp),slot A.tm 2=.one (.b b)→A.dfr=[]→Gr H H3→b=kZ l→∃ w H4,ao E2 [.tmp 2] (.ret,A,H3)=.ok [(w,H4)]∧Gr H H4∧∀ _:List Nat,w=.one (.b (kZ l)):=fun b A H3 h1 h2 h3 h4=>⟨_,H3,ak (.b b) (.inr rfl) h2 h1,h3,fun _=>by rw[h4]⟩
 generalize hr0:kZ l=r0 at fin
 refine qW (qA ad (qA h0 (qA bI (qA hv.len hv.lt)))) ?_
 refine R1.aJ fun K k1 k2 k3 k4=>?_
 refine R1.loop (fun k A H1=>∃ i:Nat,k=l.length - i∧i≤l.length∧Gr H H1∧kZ (l.drop i)=r0∧slot A.tm 5=.one v∧slot A.tm 6=.one (.i .i64 (l.length:Int))∧slot A.tm 7=.one (.i .i64 (i:Int))∧A.nt=18∧A.dfr=[]) ?_ l.length
  ⟨0,rfl,Nat.zero_le _,Fr.refl _,hr0,?_⟩
 ·clear h0 tm
  rintro k A H1 ⟨i,rfl,hi,g1,hr,t5,t6,t7,hnt,hdf⟩
  have hv1:=hv.gr g1
  refine qW (qA ad (qA t6 (qA t7 hnt))) ?_
  refine qE fun Kx Ky hx hy=>?_
  refine db (fun hc=>hx ?_) (fun hc=>hy ?_)
  ·clear hx hy Kx Ky
   have hlt:i<l.length:=by omega
   obtain ⟨id,g,off,cells,rfl,hid,hgr,hat⟩:=hv1.open (by omega)
   have ex:l[i]?=some l[i]:=List.getElem?_eq_getElem hlt
   have hdr:l.drop i=l[i]::l.drop (i+1):=List.drop_eq_getElem_cons hlt
   generalize l[i]=x at ex hdr
   have hx1:=hat i x ex
   have hw2:IntKind.i64.wrap ((i:Int)+1)=((i+1:Nat):Int):=by rw[aX (by omega) (by omega)];omega
   rw[hdr,kZ,List.any_cons] at hr
   refine qV ?_
   refine R1.aJ fun K2 q1 q2 q3 q4=>?_
   refine qG (qA ad (qA t5 (qA t7 (qA hnt (qA cd (qA dc (qA oD (qA jn (qA (ixC hlt) (qA hid (qA hgr (qA hx1.all (qA hx1.le bZ))))))))))))) fun K hK=>?_
   refine hK _ _ ?_
   clear hK K
   refine R1.gen (fun A3 H3=>Gr H1 H3∧H1.nx<H3.nx∧H3.get H1.nx=some (.arr (gpC x) 181 0 0)∧slot A3.tm 4=.one (.o (.ptr H1.nx 0 0 3))∧slot A3.tm 5=.one (.o (.sl id g off l.length 3))∧slot A3.tm 6=.one (.i .i64 (l.length:Int))∧slot A3.tm 7=.one (.i .i64 (i:Int))∧A3.nt=18∧A3.dfr=[])
    ⟨((Fr.refl _).new _).mod _ (.inl (Nat.le_refl _)),?_⟩ ?_
   ·exact qZ (qA t5 (qA t6 (qA t7 (qA hnt (qA hdf bZ)))))
   clear t5 t6 t7 hnt hdf A
   rintro A H3 ⟨g3,n3,rx,t4,t5,t6,t7,hnt,hdf⟩
   refine qG (qA ad (qA t4 (qA hnt (qA rx (qA n3 (qA dc (qA bZ tP))))))) fun K hK=>?_
   refine WE.con (oX H3 x) fun w H4 g4 hw=>?_
   subst hw
   have rx:H4.get H1.nx=some (.arr (gpC x) 181 0 0):=by rw[g4.get _ n3 not_false];exact rx
   have n4:H1.nx<H4.nx:=Nat.lt_of_lt_of_le n3 g4.nx
   have g4':=g1.gr (g3.gr g4)
   cases hgp:nq x with
   | true=>
    rw[hgp,Bool.true_or,Bool.true_or] at hr
    refine qS (qA ad hnt) ?_
    refine hK _ _ ?_
    clear hK K
    refine qY ?_
    refine qW hnt ?_
    exact q4 _ _ (k4 _ _ (fin true _ _ qp (qd hdf) g4' hr))
   | false=>
    rw[hgp,Bool.false_or] at hr
    refine qS (qA ad (qA hnt (qA t4 (qA rx (qA n4 (qA bZ (qA gk iW))))))) ?_
    refine hK _ _ ?_
    clear hK K
    cases hbr:x.2.2 with
    | true=>
     rw[hbr,Bool.true_or] at hr
     refine qY ?_
     refine qW hnt ?_
     exact q4 _ _ (k4 _ _ (fin true _ _ qp (qd hdf) g4' hr))
    | false=>
     rw[hbr,Bool.false_or] at hr
     refine qY ?_
     refine qW hnt ?_
     refine q1 _ _ ?_
     refine qW (qA hnt (qA t7 hw2)) ?_
     refine ⟨l.length - (i+1),by omega,i+1,rfl,hlt,g4',hr,?_,?_,?_,?_,?_⟩
     ·simp only[aa,Nat.reduceEqDiff,reduceIte,t5]
     ·simp only[aa,Nat.reduceEqDiff,reduceIte,t6]
     ·simp only[aa,Nat.reduceEqDiff,reduceIte]
     ·simp only[aA,hnt]
     ·simp only[ag,hdf]
  ·clear hx hy Kx Ky
   have hie:i=l.length:=by omega
   rw[hie,List.drop_length] at hr
   refine qW hnt ?_
   refine k2 _ _ ?_
   refine qW hnt ?_
   exact fin false _ _ qp (qd hdf) g1 hr
 ·simp only[aa,Nat.reduceEqDiff,reduceIte,aA,ag,and_self,true_and]
  exact ⟨rfl,trivial⟩
end Go.Proofs.YtnhbkodnmkojpaaGreat
namespace Go.Proofs.YtnhbkodnmkojpaaGreat
open Go Go.Eng
theorem si (H:Hp) (v:AC) (l:List Gp) (hv:aD H v l) (hL:l.length≤1000000):
  Con E2 89 [.one v] H (fun _=>False) fun r _=>r=.one (.b (kZ l)):=by
 refine Con.of rfl fun lg=>?_
 have hv:aD ⟨H.t,H.nx,lg⟩ v l:=hv
 generalize (⟨H.t,H.nx,lg⟩:Hp)=H at hv ⊢
 refine C1.body (E:=E2) (nt:=22) (res:=[.tmp 2]) Tryz.func89 rfl rfl rfl rfl rfl fun tm hargs=>?_
 have h0:=hargs 0 _ rfl
 clear hargs
 have fin:∀ (b:Bool) (A:ab) (H3:Hp),slot A.tm 2=.one (.b b)→A.dfr=[]→Gr H H3→b=kZ l→∃ w H4,ao E2 [.tmp 2] (.ret,A,H3)=.ok [(w,H4)]∧Gr H H4∧∀ _:List Nat,w=.one (.b (kZ l)):=fun b A H3 h1 h2 h3 h4=>⟨_,H3,ak (.b b) (.inr rfl) h2 h1,h3,fun _=>by rw[h4]⟩
 generalize hr0:kZ l=r0 at fin
 refine qW ad ?_
 refine R1.aJ fun K k1 k2 k3 k4=>?_
 refine R1.loop (fun k A H1=>∃ i:Nat,k=l.length - i∧i≤l.length∧Gr H H1∧kZ (l.drop i)=r0∧slot A.tm 0=.one v∧slot A.tm 3=.one (.i .i64 (i:Int))∧A.nt=22∧A.dfr=[]) ?_ l.length
  ⟨0,rfl,Nat.zero_le _,Fr.refl _,hr0,?_⟩
 ·clear h0 tm
  rintro k A H1 ⟨i,rfl,hi,g1,hr,t0,t3,hnt,hdf⟩
  have hv1:=hv.gr g1
  refine qW (qA ad (qA t0 (qA t3 (qA hnt (qA bI (qA hv1.len hv1.lt)))))) ?_
  refine qE fun Kx Ky hx hy=>?_
  refine db (fun hc=>hx ?_) (fun hc=>hy ?_)
  ·clear hx hy Kx Ky
   have hlt:i<l.length:=by omega
   obtain ⟨id,g,off,cells,rfl,hid,hgr,hat⟩:=hv1.open (by omega)
   have ex:l[i]?=some l[i]:=List.getElem?_eq_getElem hlt
   have hdr:l.drop i=l[i]::l.drop (i+1):=List.drop_eq_getElem_cons hlt
   generalize l[i]=x at ex hdr
   have hx1:=hat i x ex
   have hw2:IntKind.i64.wrap ((i:Int)+1)=((i+1:Nat):Int):=by rw[aX (by omega) (by omega)];omega
   rw[hdr,kZ,List.any_cons] at hr
   refine qV ?_
   refine R1.aJ fun K2 q1 q2 q3 q4=>?_
   refine qG (qA ad (qA t0 (qA t3 (qA hnt (qA cd (qA dc (qA (ixC hlt) (qA hid (qA hgr (qA hx1.all (qA hx1.le ji))))))))))) fun K hK=>?_
   refine WE.con (gE H1 x) fun w H4 g4 hw=>?_
   subst hw
   have hid4:id<H4.nx:=Nat.lt_of_lt_of_le hid g4.nx
   have hgr4:rowOf (H4.get id) g=some cells:=by rw[g4.get _ hid not_false];exact hgr
   have g4':=g1.gr g4
   cases hgp:nq x with
   | true=>
    rw[hgp,Bool.true_or,Bool.true_or] at hr
    refine qS (qA ad hnt) ?_
    refine hK _ _ ?_
    clear hK K
    refine qY ?_
    refine qW hnt ?_
    exact q4 _ _ (k4 _ _ (fin true _ _ qp (qd hdf) g4' hr))
   | false=>
    rw[hgp,Bool.false_or] at hr
    refine qS (qA ad (qA hnt (qA t0 (qA t3 (qA cd (qA (ixC hlt) (qA hid4 (qA hgr4 (qA gk (qA iW (qA hx1.f3 hx1.le3))))))))))) ?_
    refine hK _ _ ?_
    clear hK K
    cases hbr:x.2.2 with
    | true=>
     rw[hbr,Bool.true_or] at hr
     refine qY ?_
     refine qW hnt ?_
     exact q4 _ _ (k4 _ _ (fin true _ _ qp (qd hdf) g4' hr))
    | false=>
     rw[hbr,Bool.false_or] at hr
     refine qY ?_
     refine qW hnt ?_
     refine q1 _ _ ?_
     refine qW (qA hnt (qA t3 hw2)) ?_
     refine ⟨l.length - (i+1),by omega,i+1,rfl,hlt,g4',hr,?_,?_,?_,?_⟩
     ·simp only[aa,Nat.reduceEqDiff,reduceIte,t0]
     ·simp only[aa,Nat.reduceEqDiff,reduceIte]
     ·simp only[aA,hnt]
     ·simp only[ag,hdf]
  ·clear hx hy Kx Ky
   have hie:i=l.length:=by omega
   rw[hie,List.drop_length] at hr
   refine qW hnt ?_
   refine k2 _ _ ?_
   refine qW hnt ?_
   exact fin false _ _ qp (qd hdf) g1 hr
 ·simp only[aa,Nat.reduceEqDiff,reduceIte,aA,ag,h0,and_self,true_and]
  exact ⟨rfl,trivial⟩
def tI (l:List Gp) (s:List UInt8):Bool:=l.any fun x=>x.2.1==s
theorem TI (H:Hp) (v:AC) (l:List Gp) (s:List UInt8) (hv:aD H v l) (hL:l.length≤1000000):
  Con E2 184 [.one v,.one (.o (.str s))] H (fun _=>False) fun r _=>r=.one (.b (tI l s)):=by
 refine Con.of rfl fun lg=>?_
 have hv:aD ⟨H.t,H.nx,lg⟩ v l:=hv
 generalize (⟨H.t,H.nx,lg⟩:Hp)=H at hv ⊢
 refine C1.body (E:=E2) (nt:=19) (res:=[.tmp 4]) Tryz.func184 rfl rfl rfl rfl rfl fun tm hargs=>?_
 have h0:=hargs 0 _ rfl
 have h1:=hargs 1 _ rfl
 clear hargs
 have fin:∀ (b:Bool) (A:ab) (H3:Hp),slot A.tm 4=.one (.b b)→A.dfr=[]→Gr H H3→b=tI l s→∃ w H4,ao E2 [.tmp 4] (.ret,A,H3)=.ok [(w,H4)]∧Gr H H4∧∀ _:List Nat,w=.one (.b (tI l s)):=fun b A H3 h1 h2 h3 h4=>⟨_,H3,ak (.b b) (.inr rfl) h2 h1,h3,fun _=>by rw[h4]⟩
 generalize hr0:tI l s=r0 at fin
 refine qW ad ?_
 refine R1.aJ fun K k1 k2 k3 k4=>?_
 refine R1.loop (fun k A H1=>∃ i:Nat,k=l.length - i∧i≤l.length∧Gr H H1∧tI (l.drop i) s=r0∧slot A.tm 0=.one v∧slot A.tm 1=.one (.o (.str s))∧slot A.tm 5=.one (.i .i64 (i:Int))∧A.nt=19∧A.dfr=[]) ?_ l.length
  ⟨0,rfl,Nat.zero_le _,Fr.refl _,hr0,?_⟩
 ·clear h0 h1 tm
  rintro k A H1 ⟨i,rfl,hi,g1,hr,t0,t1,t5,hnt,hdf⟩
  have hv1:=hv.gr g1
  refine qW (qA ad (qA t0 (qA t5 (qA hnt (qA bI (qA hv1.len hv1.lt)))))) ?_
  refine qE fun Kx Ky hx hy=>?_
  refine db (fun hc=>hx ?_) (fun hc=>hy ?_)
  ·clear hx hy Kx Ky
   have hlt:i<l.length:=by omega
   obtain ⟨id,g,off,cells,rfl,hid,hgr,hat⟩:=hv1.open (by omega)
   have ex:l[i]?=some l[i]:=List.getElem?_eq_getElem hlt
   have hdr:l.drop i=l[i]::l.drop (i+1):=List.drop_eq_getElem_cons hlt
   generalize l[i]=x at ex hdr
   have hx1:=hat i x ex
   have hw2:IntKind.i64.wrap ((i:Int)+1)=((i+1:Nat):Int):=by rw[aX (by omega) (by omega)];omega
   rw[hdr,tI,List.any_cons] at hr
   refine qV ?_
   refine R1.aJ fun K2 q1 q2 q3 q4=>?_
   by_cases hxs:x.2.1=s
   ·rw[beq_iff_eq.2 hxs,Bool.true_or] at hr
    have cs:(x.2.1==s)=true:=beq_iff_eq.2 hxs
    refine qW (qA ad (qA t0 (qA t1 (qA t5 (qA hnt (qA cd (qA er (qA aL (qA (ixC hlt) (qA hid (qA hgr (qA hx1.f2 (qA hx1.le2 cs))))))))))))) ?_
    refine qE fun Kx Ky hx hy=>?_
    rw[bU,cs]
    refine hx ?_
    clear hx hy Kx Ky
    refine qW hnt ?_
    exact q4 _ _ (k4 _ _ (fin true _ _ qp (qd hdf) g1 hr))
   ·have cs:(x.2.1==s)=false:=beq_false_of_ne hxs
    rw[cs,Bool.false_or] at hr
    refine qW (qA ad (qA t0 (qA t1 (qA t5 (qA hnt (qA cd (qA er (qA aL (qA (ixC hlt) (qA hid (qA hgr (qA hx1.f2 (qA hx1.le2 cs))))))))))))) ?_
    refine qE fun Kx Ky hx hy=>?_
    rw[bU,cs]
    refine hy ?_
    clear hx hy Kx Ky
    refine qW hnt ?_
    refine q1 _ _ ?_
    refine qW (qA hnt (qA t5 hw2)) ?_
    refine ⟨l.length - (i+1),by omega,i+1,rfl,hlt,g1,hr,?_,?_,?_,?_,?_⟩
    ·simp only[aa,Nat.reduceEqDiff,reduceIte,t0]
    ·simp only[aa,Nat.reduceEqDiff,reduceIte,t1]
    ·simp only[aa,Nat.reduceEqDiff,reduceIte]
    ·simp only[aA,hnt]
    ·simp only[ag,hdf]
  ·clear hx hy Kx Ky
   have hie:i=l.length:=by omega
   rw[hie,List.drop_length] at hr
   refine qW hnt ?_
   refine k2 _ _ ?_
   refine qW hnt ?_
   exact fin false _ _ qp (qd hdf) g1 hr
 ·simp only[aa,Nat.reduceEqDiff,reduceIte,aA,ag,h0,h1,and_self,true_and]
  exact ⟨rfl,trivial⟩
end Go.Proofs.YtnhbkodnmkojpaaGreat
namespace Go.Proofs.YtnhbkodnmkojpaaGreat
open Go Go.Eng
theorem SE {E:Env} {r:Option Nat} {z:Code} {A:ab} {H:Hp} {Q:aE→ab→Hp→Prop} {i:Nat} (h:R1 E r z A H Q):R1 E r (.seq (.label i) z) A H Q:=R1.seq ⟨0,_,_,_,rfl,h⟩
def UL (acc:List Gp):Bool:=acc.getLast?.any nq
noncomputable def dG (less:Bool):List Gp→List Gp→Int
 | _,[]=>0
 | acc,x::l=>
  if nq x=true then
   if less=true then 24 else if UL acc=true then 5 else dG less (acc++[x]) l
  else if nmB x.2.1=false then 20 else if x.1<1∨(99:Int)<x.1 then 21 else if tI acc x.2.1=true then 22 else if (less&&x.2.2)=true then 24 else dG less (acc++[x]) l
theorem zF {l:List Gp} {i:Nat} {y:Gp} (hi:0<i) (hy:l[i - 1]?=some y):UL (l.take i)=nq y:=by
 have h:(l.take i).getLast?=some y:=by
  have hlt:=(List.getElem?_eq_some_iff.1 hy).1
  rw[List.getLast?_eq_getElem?,List.length_take,Nat.min_eq_left (by omega),List.getElem?_take,if_pos (by omega)]
  exact hy
 unfold UL
 rw[h];rfl
theorem lE (H:Hp) (v:AC) (l:List Gp) (less:Bool) (hv:aD H v l) (hL:l.length≤1000000):
  Con E2 117 [.one v,.one (.b less)] H (fun _=>False) fun r _=>r=.one (.i .i64 (dG less [] l)):=by
 refine Con.of rfl fun lg=>?_
 have hv:aD ⟨H.t,H.nx,lg⟩ v l:=hv
 generalize (⟨H.t,H.nx,lg⟩:Hp)=H at hv ⊢
 refine C1.body (E:=E2) (nt:=69) (res:=[.tmp 4]) Tryz.func117 rfl rfl rfl rfl rfl fun tm hargs=>?_
 have h0:=hargs 0 _ rfl
 have h1:=hargs 1 _ rfl
 clear hargs
 have fin:∀ (e:Int) (A:ab) (H3:Hp),slot A.tm 4=.one (.i .i64 e)→A.dfr=[]→Gr H H3→e=dG less [] l→∃ w H4,ao E2 [.tmp 4] (.ret,A,H3)=.ok [(w,H4)]∧Gr H H4∧∀ _:List Nat,w=.one (.i .i64 (dG less [] l)):=fun e A H3 h1 h2 h3 h4=>⟨_,H3,ak (.i .i64 e) (.inr rfl) h2 h1,h3,fun _=>by rw[h4]⟩
 generalize hr0:dG less [] l=r0 at fin
 refine qW (qA ad (qA h0 (qA bI (qA hv.len hv.lt)))) ?_
 refine R1.scope (SE ?_)
 refine qW (qA ad (qA h0 (qA bI (qA hv.len hv.lt)))) ?_
 refine R1.aJ fun K k1 k2 k3 k4=>?_
 refine R1.loop (fun k A H1=>∃ i:Nat,k=l.length - i∧i≤l.length∧Gr H H1∧dG less (l.take i) (l.drop i)=r0∧slot A.tm 0=.one v∧slot A.tm 1=.one (.b less)∧slot A.tm 9=.one v∧slot A.tm 10=.one (.i .i64 (l.length:Int))∧slot A.tm 11=.one (.i .i64 (i:Int))∧A.nt=69∧A.dfr=[]) ?_ l.length
  ⟨0,rfl,Nat.zero_le _,Fr.refl _,hr0,?_⟩
 ·clear h0 h1 tm
  rintro k A H1 ⟨i,rfl,hi,g1,hr,t0,t1,t9,t10,t11,hnt,hdf⟩
  have hv1:=hv.gr g1
  refine qW (qA ad (qA t10 (qA t11 hnt))) ?_
  refine qE fun Kx Ky hx hy=>?_
  refine db (fun hc=>hx ?_) (fun hc=>hy ?_)
  ·clear hx hy Kx Ky
   have hlt:i<l.length:=by omega
   obtain ⟨id,g,off,cells,rfl,hid,hgr,hat⟩:=hv1.open (by omega)
   have ex:l[i]?=some l[i]:=List.getElem?_eq_getElem hlt
   have hdr:l.drop i=l[i]::l.drop (i+1):=List.drop_eq_getElem_cons hlt
   have htk:l.take (i+1)=l.take i++[l[i]]:=List.take_succ_eq_append_getElem hlt
   generalize l[i]=x at ex hdr htk
   have hx1:=hat i x ex
   have hw2:IntKind.i64.wrap ((i:Int)+1)=((i+1:Nat):Int):=by rw[aX (by omega) (by omega)];omega
   rw[hdr,dG] at hr
   refine qV ?_
   refine R1.aJ fun K2 q1 q2 q3 q4=>?_
   refine qG (qA ad (qA t9 (qA t11 (qA hnt (qA cd (qA dc (qA oD (qA jn (qA (ixC hlt) (qA hid (qA hgr (qA hx1.all (qA hx1.le bZ))))))))))))) fun K hK=>?_
   refine hK _ _ ?_
   clear hK K
   refine R1.gen (fun A3 H3=>Gr H1 H3∧H1.nx<H3.nx∧H3.get H1.nx=some (.arr (gpC x) 181 0 0)∧slot A3.tm 0=.one (.o (.sl id g off l.length 3))∧slot A3.tm 1=.one (.b less)∧slot A3.tm 5=.one (.i .i64 (i:Int))∧slot A3.tm 6=.one (.o (.ptr H1.nx 0 0 3))∧slot A3.tm 9=.one (.o (.sl id g off l.length 3))∧slot A3.tm 10=.one (.i .i64 (l.length:Int))∧slot A3.tm 11=.one (.i .i64 (i:Int))∧A3.nt=69∧A3.dfr=[])
    ⟨((Fr.refl _).new _).mod _ (.inl (Nat.le_refl _)),?_⟩ ?_
   ·exact qZ (qA t0 (qA t1 (qA t9 (qA t10 (qA t11 (qA hnt (qA hdf bZ)))))))
   clear t0 t1 t9 t10 t11 hnt hdf A
   rintro A H3 ⟨g3,n3,rx,t0,t1,t5,t6,t9,t10,t11,hnt,hdf⟩
   have next:∀ (A2:ab) (H2:Hp),Gr H3 H2→dG less (l.take (i+1)) (l.drop (i+1))=r0→slot A2.tm 0=slot A.tm 0→slot A2.tm 1=slot A.tm 1→slot A2.tm 9=slot A.tm 9→slot A2.tm 10=slot A.tm 10→slot A2.tm 11=slot A.tm 11→A2.nt=69→A2.dfr=[] →
     K2 .normal A2 H2∧K2 (.exit 1) A2 H2:=by
    intro A2 H2 g2 hr s0 s1 s9 s10 s11 hn hd
    have g2':Gr H H2:=g1.gr (g3.gr g2)
    rw[t0] at s0;rw[t1] at s1;rw[t9] at s9;rw[t10] at s10;rw[t11] at s11
    refine ⟨q1 _ _ ?_,q2 _ _ ?_⟩
    ·refine qW (qA hn (qA s11 hw2)) ?_
     refine ⟨l.length - (i+1),by omega,i+1,rfl,hlt,g2',hr,?_,?_,?_,?_,?_,?_,?_⟩
     ·simp only[aa,Nat.reduceEqDiff,reduceIte,s0]
     ·simp only[aa,Nat.reduceEqDiff,reduceIte,s1]
     ·simp only[aa,Nat.reduceEqDiff,reduceIte,s9]
     ·simp only[aa,Nat.reduceEqDiff,reduceIte,s10]
     ·simp only[aa,Nat.reduceEqDiff,reduceIte]
     ·simp only[aA,hn]
     ·simp only[ag,hd]
    ·refine qW (qA hn (qA s11 hw2)) ?_
     refine ⟨l.length - (i+1),by omega,i+1,rfl,hlt,g2',hr,?_,?_,?_,?_,?_,?_,?_⟩
     ·simp only[aa,Nat.reduceEqDiff,reduceIte,s0]
     ·simp only[aa,Nat.reduceEqDiff,reduceIte,s1]
     ·simp only[aa,Nat.reduceEqDiff,reduceIte,s9]
     ·simp only[aa,Nat.reduceEqDiff,reduceIte,s10]
     ·simp only[aa,Nat.reduceEqDiff,reduceIte]
     ·simp only[aA,hn]
     ·simp only[ag,hd]
   clear q1 q2
   rw[←htk] at hr
   refine R1.aJ fun K3 p1 p2 p3 p4=>?_
   refine qG (qA ad (qA t6 (qA hnt (qA rx (qA n3 (qA dc (qA bZ tP))))))) fun K hK=>?_
   refine WE.con (oX H3 x) fun w H4 g4 hw=>?_
   subst hw
   have rx4:H4.get H1.nx=some (.arr (gpC x) 181 0 0):=by rw[g4.get _ n3 not_false];exact rx
   have n4:H1.nx<H4.nx:=Nat.lt_of_lt_of_le n3 g4.nx
   have g4':=g1.gr (g3.gr g4)
   cases hgp:nq x with
   | true=>
    rw[if_pos hgp] at hr
    refine qS (qA ad (qA hnt t1)) ?_
    refine hK _ _ ?_
    clear hK K
    cases less with
    | true=>
     rw[if_pos rfl] at hr
     refine qY ?_
     refine qW hnt ?_
     exact p4 _ _ (q4 _ _ (k4 _ _ (fin 24 _ _ qp (qd hdf) g4' hr)))
    | false=>
     rw[if_neg Bool.false_ne_true] at hr
     refine qY ?_
     refine qG (qA ad (qA t6 (qA hnt (qA rx4 (qA n4 (qA dc (qA bZ tP))))))) fun K hK=>?_
     refine WE.con (oX H4 x) fun w H5 g5 hw=>?_
     subst hw
     have g35:Gr H3 H5:=g4.gr g5
     have g5':Gr H H5:=g4'.gr g5
     refine qS (qA ad (qA hnt hgp)) ?_
     refine hK _ _ ?_
     clear hK K
     refine qY ?_
     by_cases hi0:i=0
     ·have c0:((0:Int)<(i:Int))=False:=eq_false (by omega)
      rw[hi0,List.take_zero,if_neg (by exact Bool.false_ne_true),←hi0] at hr
      refine qW (qA ad (qA t5 (qA hnt c0))) ?_
      refine qY ?_
      refine qV ?_
      exact p3 1 _ _ (by decide) (next _ _ g35 hr qp qp qp qp qp (by simp only[aA,hnt]) (qd hdf)).2
     ·have c0:((0:Int)<(i:Int))=True:=eq_true (by omega)
      have hlt3:i - 1<l.length:=by omega
      have ey:l[i - 1]?=some l[i - 1]:=List.getElem?_eq_getElem hlt3
      have hgpp:=zF (by omega) ey
      generalize l[i - 1]=y at ey hgpp
      have hy1:=hat (i - 1) y ey
      have hw3:IntKind.i64.wrap ((i:Int) - 1)=((i - 1:Nat):Int):=by rw[aX (by omega) (by omega)];omega
      have hid5:id<H5.nx:=Nat.lt_of_lt_of_le hid (g3.gr g35).nx
      have hgr5:rowOf (H5.get id) g=some cells:=by rw[(g3.gr g35).get _ hid not_false];exact hgr
      rw[hgpp] at hr
      refine qG (qA ad (qA t0 (qA t5 (qA hnt (qA c0 (qA hw3 (qA cd (qA dc (qA (ixC hlt3) (qA hid5 (qA hgr5 (qA hy1.all (qA hy1.le (qA bZ tP)))))))))))))) fun K hK=>?_
      refine WE.con (oX H5 y) fun w H6 g6 hw=>?_
      subst hw
      have g36:Gr H3 H6:=g35.gr g6
      have g6':Gr H H6:=g5'.gr g6
      cases hgy:nq y with
      | true=>
       rw[hgy,if_pos rfl] at hr
       refine qS (qA ad hnt) ?_
       refine hK _ _ ?_
       clear hK K
       refine qY ?_
       refine qW hnt ?_
       exact p4 _ _ (q4 _ _ (k4 _ _ (fin 5 _ _ qp (qd hdf) g6' hr)))
      | false=>
       rw[hgy,if_neg Bool.false_ne_true] at hr
       refine qS (qA ad hnt) ?_
       refine hK _ _ ?_
       clear hK K
       refine qY ?_
       refine qV ?_
       exact p3 1 _ _ (by decide) (next _ _ g36 hr qp qp qp qp qp (by simp only[aA,hnt]) (qd hdf)).2
   | false=>
    rw[if_neg (by rw[hgp];exact Bool.false_ne_true)] at hr
    refine qS (qA ad (qA hnt t1)) ?_
    refine hK _ _ ?_
    clear hK K
    refine qY ?_
    refine qG (qA ad (qA t6 (qA hnt (qA rx4 (qA n4 (qA dc (qA bZ tP))))))) fun K hK=>?_
    refine WE.con (oX H4 x) fun w H5 g5 hw=>?_
    subst hw
    have rx5:H5.get H1.nx=some (.arr (gpC x) 181 0 0):=by rw[g5.get _ n4 not_false];exact rx4
    have n5:H1.nx<H5.nx:=Nat.lt_of_lt_of_le n4 g5.nx
    have g35:Gr H3 H5:=g4.gr g5
    have g5':Gr H H5:=g4'.gr g5
    refine qS (qA ad (qA hnt hgp)) ?_
    refine hK _ _ ?_
    clear hK K
    refine qY ?_
    refine qG (qA ad (qA t6 (qA hnt (qA rx5 (qA n5 (qA er (qA aL (qA bZ fk)))))))) fun K hK=>?_
    refine WE.fL (qg x.2.1) fun H6 g6 nn6 e6=>?_
    have rx6:H6.get H1.nx=some (.arr (gpC x) 181 0 0):=(e6 _).trans rx5
    have n6:H1.nx<H6.nx:=by rw[nn6];exact n5
    have g36:Gr H3 H6:=g35.gr g6
    have g6':Gr H H6:=g5'.gr g6
    cases hnm:nmB x.2.1 with
    | false=>
     rw[if_pos hnm] at hr
     refine qS (qA ad hnt) ?_
     refine hK _ _ ?_
     clear hK K
     refine qY ?_
     refine qW hnt ?_
     exact p4 _ _ (q4 _ _ (k4 _ _ (fin 20 _ _ qp (qd hdf) g6' hr)))
    | true=>
     rw[if_neg (by rw[hnm];decide)] at hr
     refine qS (qA ad hnt) ?_
     refine hK _ _ ?_
     clear hK K
     refine qY ?_
     by_cases hn1:x.1<1
     ·have c1:(x.1<1)=True:=eq_true hn1
      rw[if_pos (.inl hn1)] at hr
      refine qW (qA ad (qA t6 (qA hnt (qA rx6 (qA n6 (qA dX (qA cj (qA bZ c1)))))))) ?_
      refine qY ?_
      refine qW hnt ?_
      exact p4 _ _ (q4 _ _ (k4 _ _ (fin 21 _ _ qp (qd hdf) g6' hr)))
     ·have c1:(x.1<1)=False:=eq_false hn1
      by_cases hn2:(99:Int)<x.1
      ·have c2:((99:Int)<x.1)=True:=eq_true hn2
       rw[if_pos (.inr hn2)] at hr
       refine qW (qA ad (qA t6 (qA hnt (qA rx6 (qA n6 (qA dX (qA cj (qA bZ (qA c1 c2))))))))) ?_
       refine qY ?_
       refine qW hnt ?_
       exact p4 _ _ (q4 _ _ (k4 _ _ (fin 21 _ _ qp (qd hdf) g6' hr)))
      ·have c2:((99:Int)<x.1)=False:=eq_false hn2
       rw[if_neg (fun h=>h.elim hn1 hn2)] at hr
       refine qW (qA ad (qA t6 (qA hnt (qA rx6 (qA n6 (qA dX (qA cj (qA bZ (qA c1 c2))))))))) ?_
       refine qY ?_
       refine qW hnt ?_
       refine p1 _ _ ?_
       have hid6:id<H6.nx:=Nat.lt_of_lt_of_le hid (g3.gr g36).nx
       have hgr6:rowOf (H6.get id) g=some cells:=by rw[(g3.gr g36).get _ hid not_false];exact hgr
       generalize hrb:tI (l.take i) x.2.1=rb at hr
       have hti:(l.take i).length=i:=by rw[List.length_take];omega
       refine qG (qA ad (qA t0 (qA t5 (qA hnt (qA cd (qA bI (qA (slH (Nat.le_of_lt hlt)) hid6))))))) fun K hK=>?_
       refine hK _ _ ?_
       clear hK K
       refine R1.aJ fun K4 u1 u2 u3 u4=>?_
       refine R1.loop (fun k A2 H2=>∃ j:Nat,k=i - j∧j≤i∧Gr H6 H2∧tI ((l.take i).drop j) x.2.1=rb∧slot A2.tm 0=.one (.o (.sl id g off l.length 3))∧slot A2.tm 1=.one (.b less)∧slot A2.tm 6=.one (.o (.ptr H1.nx 0 0 3))∧slot A2.tm 9=.one (.o (.sl id g off l.length 3))∧slot A2.tm 10=.one (.i .i64 (l.length:Int))∧slot A2.tm 11=.one (.i .i64 (i:Int))∧slot A2.tm 51=.one (.o (.sl id g off i 3))∧slot A2.tm 52=.one (.i .i64 (i:Int))∧slot A2.tm 53=.one (.i .i64 (j:Int))∧A2.nt=69∧A2.dfr=[]) ?_ i
        ⟨0,rfl,Nat.zero_le _,Fr.refl _,by rw[List.drop_zero];exact hrb,?_⟩
       ·rintro k A2 H2 ⟨j,rfl,hj,g2,hr2,s0,s1,s6,s9,s10,s11,s51,s52,s53,hn,hd⟩
        have rx2:H2.get H1.nx=some (.arr (gpC x) 181 0 0):=by rw[g2.get _ n6 not_false];exact rx6
        have n2:H1.nx<H2.nx:=Nat.lt_of_lt_of_le n6 g2.nx
        have hid2:id<H2.nx:=Nat.lt_of_lt_of_le hid6 g2.nx
        have hgr2:rowOf (H2.get id) g=some cells:=by rw[g2.get _ hid6 not_false];exact hgr6
        have g2':Gr H H2:=g6'.gr g2
        refine qW (qA ad (qA s52 (qA s53 hn))) ?_
        refine qE fun Kx Ky hx hy=>?_
        refine db (fun hc=>hx ?_) (fun hc=>hy ?_)
        ·clear hx hy Kx Ky
         have hjt:j<i:=by omega
         have hjt':j<(l.take i).length:=by omega
         have hdr2:(l.take i).drop j=(l.take i)[j]::(l.take i).drop (j+1):=List.drop_eq_getElem_cons hjt'
         have ey:l[j]?=some (l.take i)[j]:=by rw[List.getElem_take];exact List.getElem?_eq_getElem (by omega)
         generalize (l.take i)[j]=y at hdr2 ey
         have hy1:=hat j y ey
         have hw4:IntKind.i64.wrap ((j:Int)+1)=((j+1:Nat):Int):=by rw[aX (by omega) (by omega)];omega
         rw[hdr2,tI,List.any_cons] at hr2
         refine qV ?_
         refine R1.aJ fun K5 w1 w2 w3 w4=>?_
         refine qG (qA ad (qA s51 (qA s53 (qA hn (qA cd (qA dc (qA oD (qA jn (qA (ixC hjt) (qA hid2 (qA hgr2 (qA hy1.all (qA hy1.le bZ))))))))))))) fun K hK=>?_
         refine hK _ _ ?_
         clear hK K
         refine R1.gen (fun A3 H7=>Gr H2 H7∧H2.nx<H7.nx∧H7.get H2.nx=some (.arr (gpC y) 181 0 0)∧slot A3.tm 8=.one (.o (.ptr H2.nx 0 0 3))∧slot A3.tm 0=.one (.o (.sl id g off l.length 3))∧slot A3.tm 1=.one (.b less)∧slot A3.tm 6=.one (.o (.ptr H1.nx 0 0 3))∧slot A3.tm 9=.one (.o (.sl id g off l.length 3))∧slot A3.tm 10=.one (.i .i64 (l.length:Int))∧slot A3.tm 11=.one (.i .i64 (i:Int))∧slot A3.tm 51=.one (.o (.sl id g off i 3))∧slot A3.tm 52=.one (.i .i64 (i:Int))∧slot A3.tm 53=.one (.i .i64 (j:Int))∧A3.nt=69∧A3.dfr=[])
          ⟨((Fr.refl _).new _).mod _ (.inl (Nat.le_refl _)),?_⟩ ?_
         ·exact qZ (qA s0 (qA s1 (qA s6 (qA s9 (qA s10 (qA s11 (qA s51 (qA s52 (qA s53 (qA hn (qA hd bZ)))))))))))
         clear s0 s1 s6 s9 s10 s11 s51 s52 s53 hn hd A2
         rintro A2 H7 ⟨g7,n7,ry,s8,s0,s1,s6,s9,s10,s11,s51,s52,s53,hn,hd⟩
         have rx7:H7.get H1.nx=some (.arr (gpC x) 181 0 0):=by rw[g7.get _ n2 not_false];exact rx2
         have n17:H1.nx<H7.nx:=Nat.lt_of_lt_of_le n2 g7.nx
         have g7':Gr H H7:=g2'.gr g7
         cases cs:(y.2.1==x.2.1) with
         | true=>
          rw[cs,Bool.true_or] at hr2
          rw[←hr2,if_pos rfl] at hr
          refine qW (qA ad (qA s8 (qA s6 (qA hn (qA ry (qA n7 (qA rx7 (qA n17 (qA bZ (qA er aL)))))))))) ?_
          refine qE fun Kx Ky hx hy=>?_
          rw[bU,cs]
          refine hx ?_
          clear hx hy Kx Ky
          refine qW hn ?_
          exact w4 _ _ (u4 _ _ (q4 _ _ (k4 _ _ (fin 22 _ _ qp (by simp only[ag,hd]) g7' hr))))
         | false=>
          rw[cs,Bool.false_or] at hr2
          refine qW (qA ad (qA s8 (qA s6 (qA hn (qA ry (qA n7 (qA rx7 (qA n17 (qA bZ (qA er aL)))))))))) ?_
          refine qE fun Kx Ky hx hy=>?_
          rw[bU,cs]
          refine hy ?_
          clear hx hy Kx Ky
          refine qW hn ?_
          refine w1 _ _ ?_
          refine qW (qA hn (qA s53 hw4)) ?_
          refine ⟨i - (j+1),by omega,j+1,rfl,hjt,g2.gr g7,hr2,?_,?_,?_,?_,?_,?_,?_,?_,?_,?_,?_⟩
          ·simp only[aa,Nat.reduceEqDiff,reduceIte,s0]
          ·simp only[aa,Nat.reduceEqDiff,reduceIte,s1]
          ·simp only[aa,Nat.reduceEqDiff,reduceIte,s6]
          ·simp only[aa,Nat.reduceEqDiff,reduceIte,s9]
          ·simp only[aa,Nat.reduceEqDiff,reduceIte,s10]
          ·simp only[aa,Nat.reduceEqDiff,reduceIte,s11]
          ·simp only[aa,Nat.reduceEqDiff,reduceIte,s51]
          ·simp only[aa,Nat.reduceEqDiff,reduceIte,s52]
          ·simp only[aa,Nat.reduceEqDiff,reduceIte]
          ·simp only[aA,hn]
          ·simp only[ag,hd]
        ·clear hx hy Kx Ky
         have hje:(l.take i).drop j=[]:=List.drop_eq_nil_of_le (by omega)
         rw[hje] at hr2
         rw[←hr2,if_neg (by exact Bool.false_ne_true)] at hr
         refine qW hn ?_
         refine u2 _ _ ?_
         cases less with
         | false=>
          rw[if_neg (by exact Bool.false_ne_true)] at hr
          refine qW (qA ad (qA s1 hn)) ?_
          refine qY ?_
          refine qW hn ?_
          exact (next _ _ (g36.gr g2) hr (by simp only[aa,Nat.reduceEqDiff,reduceIte,s0,t0]) (by simp only[aa,Nat.reduceEqDiff,reduceIte,s1,t1]) (by simp only[aa,Nat.reduceEqDiff,reduceIte,s9,t9]) (by simp only[aa,Nat.reduceEqDiff,reduceIte,s10,t10]) (by simp only[aa,Nat.reduceEqDiff,reduceIte,s11,t11]) (by simp only[aA,hn]) (by simp only[ag,hd])).1
         | true=>
          cases hbr:x.2.2 with
          | true=>
           rw[hbr,if_pos (by rfl)] at hr
           refine qW (qA ad (qA s1 (qA s6 (qA hn (qA rx2 (qA n2 (qA bZ (qA gk (qA iW hbr))))))))) ?_
           refine qY ?_
           refine qW hn ?_
           exact q4 _ _ (k4 _ _ (fin 24 _ _ qp (by simp only[ag,hd]) g2' hr))
          | false=>
           rw[hbr,if_neg (by exact Bool.false_ne_true)] at hr
           refine qW (qA ad (qA s1 (qA s6 (qA hn (qA rx2 (qA n2 (qA bZ (qA gk (qA iW hbr))))))))) ?_
           refine qY ?_
           refine qW hn ?_
           exact (next _ _ (g36.gr g2) hr (by simp only[aa,Nat.reduceEqDiff,reduceIte,s0,t0]) (by simp only[aa,Nat.reduceEqDiff,reduceIte,s1,t1]) (by simp only[aa,Nat.reduceEqDiff,reduceIte,s9,t9]) (by simp only[aa,Nat.reduceEqDiff,reduceIte,s10,t10]) (by simp only[aa,Nat.reduceEqDiff,reduceIte,s11,t11]) (by simp only[aA,hn]) (by simp only[ag,hd])).1
       ·simp only[aa,Nat.reduceEqDiff,reduceIte,aA,ag,t0,t1,t6,t9,t10,t11,hnt,hdf,and_self,true_and]
        exact ⟨rfl,trivial⟩
  ·clear hx hy Kx Ky
   have hie:i=l.length:=by omega
   rw[hie,List.drop_length,dG] at hr
   refine qW hnt ?_
   refine k2 _ _ ?_
   refine qW hnt ?_
   exact fin 0 _ _ qp (qd hdf) g1 hr
 ·simp only[aa,Nat.reduceEqDiff,reduceIte,aA,ag,h0,h1,and_self,true_and]
  exact ⟨rfl,trivial⟩
end Go.Proofs.YtnhbkodnmkojpaaGreat
namespace Go.Proofs.YtnhbkodnmkojpaaGreat
open Go Go.Eng
theorem rY (H:Hp) (v:AC) (l:List Gp) (less:Bool) (hv:aD H v l) (hL:l.length≤1000000):
  Con E2 156 [.one v,.one (.b less)] H (fun _=>False) fun r _=>r=.one (.i .i64 (dG less [] l)):=by
 refine Con.of rfl fun lg=>?_
 have hv:aD ⟨H.t,H.nx,lg⟩ v l:=hv
 generalize (⟨H.t,H.nx,lg⟩:Hp)=H at hv ⊢
 refine C1.body (E:=E2) (nt:=68) (res:=[.tmp 4]) Tryz.func156 rfl rfl rfl rfl rfl fun tm hargs=>?_
 have h0:=hargs 0 _ rfl
 have h1:=hargs 1 _ rfl
 clear hargs
 have fin:∀ (e:Int) (A:ab) (H3:Hp),slot A.tm 4=.one (.i .i64 e)→A.dfr=[]→Gr H H3→e=dG less [] l→∃ w H4,ao E2 [.tmp 4] (.ret,A,H3)=.ok [(w,H4)]∧Gr H H4∧∀ _:List Nat,w=.one (.i .i64 (dG less [] l)):=fun e A H3 h1 h2 h3 h4=>⟨_,H3,ak (.i .i64 e) (.inr rfl) h2 h1,h3,fun _=>by rw[h4]⟩
 generalize hr0:dG less [] l=r0 at fin
 refine qW ad ?_
 refine R1.aJ fun K k1 k2 k3 k4=>?_
 refine R1.loop (fun k A H1=>∃ i:Nat,k=l.length - i∧i≤l.length∧Gr H H1∧dG less (l.take i) (l.drop i)=r0∧slot A.tm 0=.one v∧slot A.tm 1=.one (.b less)∧slot A.tm 5=.one (.i .i64 (i:Int))∧A.nt=68∧A.dfr=[]) ?_ l.length
  ⟨0,rfl,Nat.zero_le _,Fr.refl _,hr0,?_⟩
 ·clear h0 h1 tm
  rintro k A H1 ⟨i,rfl,hi,g1,hr,t0,t1,t5,hnt,hdf⟩
  have hv1:=hv.gr g1
  refine qW (qA ad (qA t0 (qA t5 (qA hnt (qA bI (qA hv1.len hv1.lt)))))) ?_
  refine qE fun Kx Ky hx hy=>?_
  refine db (fun hc=>hx ?_) (fun hc=>hy ?_)
  ·clear hx hy Kx Ky
   have hlt:i<l.length:=by omega
   obtain ⟨id,g,off,cells,rfl,hid,hgr,hat⟩:=hv1.open (by omega)
   have ex:l[i]?=some l[i]:=List.getElem?_eq_getElem hlt
   have hdr:l.drop i=l[i]::l.drop (i+1):=List.drop_eq_getElem_cons hlt
   have htk:l.take (i+1)=l.take i++[l[i]]:=List.take_succ_eq_append_getElem hlt
   generalize l[i]=x at ex hdr htk
   have hx1:=hat i x ex
   have hw2:IntKind.i64.wrap ((i:Int)+1)=((i+1:Nat):Int):=by rw[aX (by omega) (by omega)];omega
   rw[hdr,dG] at hr
   refine qV ?_
   refine R1.aJ fun K2 q1 q2 q3 q4=>?_
   refine qG (qA ad (qA t0 (qA t5 (qA hnt (qA cd (qA dc (qA oD (qA jn (qA (ixC hlt) (qA hid (qA hgr (qA hx1.all (qA hx1.le bZ))))))))))))) fun K hK=>?_
   refine hK _ _ ?_
   clear hK K
   refine R1.gen (fun A3 H3=>Gr H1 H3∧H1.nx<H3.nx∧H3.get H1.nx=some (.arr (gpC x) 181 0 0)∧slot A3.tm 0=.one (.o (.sl id g off l.length 3))∧slot A3.tm 1=.one (.b less)∧slot A3.tm 5=.one (.i .i64 (i:Int))∧slot A3.tm 6=.one (.o (.ptr H1.nx 0 0 3))∧A3.nt=68∧A3.dfr=[])
    ⟨((Fr.refl _).new _).mod _ (.inl (Nat.le_refl _)),?_⟩ ?_
   ·exact qZ (qA t0 (qA t1 (qA t5 (qA hnt (qA hdf bZ)))))
   clear t0 t1 t5 hnt hdf A
   rintro A H3 ⟨g3,n3,rx,t0,t1,t5,t6,hnt,hdf⟩
   have next:∀ (A2:ab) (H2:Hp),Gr H3 H2→dG less (l.take (i+1)) (l.drop (i+1))=r0→slot A2.tm 0=slot A.tm 0→slot A2.tm 1=slot A.tm 1→slot A2.tm 5=slot A.tm 5→A2.nt=68→A2.dfr=[] →
     K2 .normal A2 H2:=by
    intro A2 H2 g2 hr s0 s1 s5 hn hd
    have g2':Gr H H2:=g1.gr (g3.gr g2)
    rw[t0] at s0;rw[t1] at s1;rw[t5] at s5
    refine q1 _ _ ?_
    refine qW (qA hn (qA s5 hw2)) ?_
    refine ⟨l.length - (i+1),by omega,i+1,rfl,hlt,g2',hr,?_,?_,?_,?_,?_⟩
    ·simp only[aa,Nat.reduceEqDiff,reduceIte,s0]
    ·simp only[aa,Nat.reduceEqDiff,reduceIte,s1]
    ·simp only[aa,Nat.reduceEqDiff,reduceIte]
    ·simp only[aA,hn]
    ·simp only[ag,hd]
   clear q1 q2
   rw[←htk] at hr
   refine R1.tk fun K3 p1 p2 p3 p4=>?_
   refine qG (qA ad (qA t6 (qA hnt (qA rx (qA n3 (qA dc (qA bZ ji))))))) fun K hK=>?_
   refine WE.con (gE H3 x) fun w H4 g4 hw=>?_
   subst hw
   have rx4:H4.get H1.nx=some (.arr (gpC x) 181 0 0):=by rw[g4.get _ n3 not_false];exact rx
   have n4:H1.nx<H4.nx:=Nat.lt_of_lt_of_le n3 g4.nx
   have g4':=g1.gr (g3.gr g4)
   cases hgp:nq x with
   | true=>
    rw[if_pos hgp] at hr
    refine qS (qA ad (qA hnt t1)) ?_
    refine hK _ _ ?_
    clear hK K
    cases less with
    | true=>
     rw[if_pos rfl] at hr
     refine qY ?_
     refine qW hnt ?_
     exact p4 _ _ (q4 _ _ (k4 _ _ (fin 24 _ _ qp (qd hdf) g4' hr)))
    | false=>
     rw[if_neg Bool.false_ne_true] at hr
     refine qY ?_
     refine qG (qA ad (qA t6 (qA hnt (qA rx4 (qA n4 (qA dc (qA bZ ji))))))) fun K hK=>?_
     refine WE.con (gE H4 x) fun w H5 g5 hw=>?_
     subst hw
     have rx5:H5.get H1.nx=some (.arr (gpC x) 181 0 0):=by rw[g5.get _ n4 not_false];exact rx4
     have n5:H1.nx<H5.nx:=Nat.lt_of_lt_of_le n4 g5.nx
     have g35:Gr H3 H5:=g4.gr g5
     have g5':Gr H H5:=g4'.gr g5
     by_cases hi0:i=0
     ·have c0:((0:Int)<(i:Int))=False:=eq_false (by omega)
      rw[hi0,List.take_zero,if_neg (by exact Bool.false_ne_true),←hi0] at hr
      refine qS (qA ad (qA t5 (qA hnt (qA hgp c0)))) ?_
      refine hK _ _ ?_
      clear hK K
      refine qY ?_
      refine qG (qA ad (qA t6 (qA hnt (qA rx5 (qA n5 (qA dc (qA bZ ji))))))) fun K hK=>?_
      refine WE.con (gE H5 x) fun w H6 g6 hw=>?_
      subst hw
      have g36:Gr H3 H6:=g35.gr g6
      refine qS (qA ad (qA hnt hgp)) ?_
      refine hK _ _ ?_
      clear hK K
      refine qY ?_
      refine qV ?_
      exact p1 _ _ (next _ _ g36 hr qp qp qp (by simp only[aA,hnt]) (qd hdf))
     ·have c0:((0:Int)<(i:Int))=True:=eq_true (by omega)
      have hlt3:i - 1<l.length:=by omega
      have ey:l[i - 1]?=some l[i - 1]:=List.getElem?_eq_getElem hlt3
      have hgpp:=zF (by omega) ey
      generalize l[i - 1]=y at ey hgpp
      have hy1:=hat (i - 1) y ey
      have hw3:IntKind.i64.wrap ((i:Int) - 1)=((i - 1:Nat):Int):=by rw[aX (by omega) (by omega)];omega
      have hid5:id<H5.nx:=Nat.lt_of_lt_of_le hid (g3.gr g35).nx
      have hgr5:rowOf (H5.get id) g=some cells:=by rw[(g3.gr g35).get _ hid not_false];exact hgr
      rw[hgpp] at hr
      refine qS (qA ad (qA t0 (qA t5 (qA hnt (qA hgp (qA c0 (qA hw3 (qA cd (qA dc (qA (ixC hlt3) (qA hid5 (qA hgr5 (qA hy1.all (qA hy1.le (qA bZ ji))))))))))))))) ?_
      refine WE.con (gE H5 y) fun w H6 g6 hw=>?_
      subst hw
      have rx6:H6.get H1.nx=some (.arr (gpC x) 181 0 0):=by rw[g6.get _ n5 not_false];exact rx5
      have n6:H1.nx<H6.nx:=Nat.lt_of_lt_of_le n5 g6.nx
      have g36:Gr H3 H6:=g35.gr g6
      have g6':Gr H H6:=g5'.gr g6
      cases hgy:nq y with
      | true=>
       rw[hgy,if_pos rfl] at hr
       refine qS (qA ad hnt) ?_
       refine hK _ _ ?_
       clear hK K
       refine qY ?_
       refine qW hnt ?_
       exact p4 _ _ (q4 _ _ (k4 _ _ (fin 5 _ _ qp (qd hdf) g6' hr)))
      | false=>
       rw[hgy,if_neg Bool.false_ne_true] at hr
       refine qS (qA ad hnt) ?_
       refine hK _ _ ?_
       clear hK K
       refine qY ?_
       refine qG (qA ad (qA t6 (qA hnt (qA rx6 (qA n6 (qA dc (qA bZ ji))))))) fun K hK=>?_
       refine WE.con (gE H6 x) fun w H7 g7 hw=>?_
       subst hw
       have g37:Gr H3 H7:=g36.gr g7
       refine qS (qA ad (qA hnt hgp)) ?_
       refine hK _ _ ?_
       clear hK K
       refine qY ?_
       refine qV ?_
       exact p1 _ _ (next _ _ g37 hr qp qp qp (by simp only[aA,hnt]) (qd hdf))
   | false=>
    rw[if_neg (by rw[hgp];exact Bool.false_ne_true)] at hr
    refine qS (qA ad (qA hnt t1)) ?_
    refine hK _ _ ?_
    clear hK K
    refine qY ?_
    refine qG (qA ad (qA t6 (qA hnt (qA rx4 (qA n4 (qA dc (qA bZ ji))))))) fun K hK=>?_
    refine WE.con (gE H4 x) fun w H5 g5 hw=>?_
    subst hw
    have rx5:H5.get H1.nx=some (.arr (gpC x) 181 0 0):=by rw[g5.get _ n4 not_false];exact rx4
    have n5:H1.nx<H5.nx:=Nat.lt_of_lt_of_le n4 g5.nx
    have g35:Gr H3 H5:=g4.gr g5
    have g5':Gr H H5:=g4'.gr g5
    refine qS (qA ad (qA hnt hgp)) ?_
    refine hK _ _ ?_
    clear hK K
    refine qY ?_
    refine qG (qA ad (qA t6 (qA hnt (qA rx5 (qA n5 (qA dc (qA bZ ji))))))) fun K hK=>?_
    refine WE.con (gE H5 x) fun w H8 g8 hw=>?_
    subst hw
    have rx8:H8.get H1.nx=some (.arr (gpC x) 181 0 0):=by rw[g8.get _ n5 not_false];exact rx5
    have n8:H1.nx<H8.nx:=Nat.lt_of_lt_of_le n5 g8.nx
    have g38:Gr H3 H8:=g35.gr g8
    have g8':Gr H H8:=g5'.gr g8
    refine qS (qA ad (qA hnt hgp)) ?_
    refine hK _ _ ?_
    clear hK K
    refine qY ?_
    refine qG (qA ad (qA t6 (qA hnt (qA rx8 (qA n8 (qA er (qA aL (qA bZ kr)))))))) fun K hK=>?_
    refine WE.con (dE H8 x.2.1) fun w H6 g6 hw=>?_
    subst hw
    have rx6:H6.get H1.nx=some (.arr (gpC x) 181 0 0):=by rw[g6.get _ n8 not_false];exact rx8
    have n6:H1.nx<H6.nx:=Nat.lt_of_lt_of_le n8 g6.nx
    have g36:Gr H3 H6:=g38.gr g6
    have g6':Gr H H6:=g8'.gr g6
    cases hnm:nmB x.2.1 with
    | false=>
     rw[if_pos hnm] at hr
     refine qS (qA ad hnt) ?_
     refine hK _ _ ?_
     clear hK K
     refine qY ?_
     refine qW hnt ?_
     exact p4 _ _ (q4 _ _ (k4 _ _ (fin 20 _ _ qp (qd hdf) g6' hr)))
    | true=>
     rw[if_neg (by rw[hnm];decide)] at hr
     refine qS (qA ad hnt) ?_
     refine hK _ _ ?_
     clear hK K
     refine qY ?_
     by_cases hn1:x.1<1
     ·have c1:(x.1<1)=True:=eq_true hn1
      rw[if_pos (.inl hn1)] at hr
      refine qW (qA ad (qA t6 (qA hnt (qA rx6 (qA n6 (qA dX (qA cj (qA bZ c1)))))))) ?_
      refine qY ?_
      refine qW hnt ?_
      exact p4 _ _ (q4 _ _ (k4 _ _ (fin 21 _ _ qp (qd hdf) g6' hr)))
     ·have c1:(x.1<1)=False:=eq_false hn1
      by_cases hn2:(99:Int)<x.1
      ·have c2:((99:Int)<x.1)=True:=eq_true hn2
       rw[if_pos (.inr hn2)] at hr
       refine qW (qA ad (qA t6 (qA hnt (qA rx6 (qA n6 (qA dX (qA cj (qA bZ (qA c1 c2))))))))) ?_
       refine qY ?_
       refine qW hnt ?_
       exact p4 _ _ (q4 _ _ (k4 _ _ (fin 21 _ _ qp (qd hdf) g6' hr)))
      ·have c2:((99:Int)<x.1)=False:=eq_false hn2
       rw[if_neg (fun h=>h.elim hn1 hn2)] at hr
       have hid6:id<H6.nx:=Nat.lt_of_lt_of_le hid (g3.gr g36).nx
       have hgr6:rowOf (H6.get id) g=some cells:=by rw[(g3.gr g36).get _ hid not_false];exact hgr
       have hvt:aD H6 (.o (.sl id g off i 3)) (l.take i):=(hv1.gr (g3.gr g36)).take (Nat.le_of_lt hlt)
       refine qG (qA ad (qA t6 (qA hnt (qA rx6 (qA n6 (qA dX (qA cj (qA bZ (qA c1 c2))))))))) fun K hK=>?_
       refine hK _ _ ?_
       clear hK K
       refine qY ?_
       refine qG (qA ad (qA t0 (qA t5 (qA t6 (qA hnt (qA cd (qA (slH (Nat.le_of_lt hlt)) (qA hid6 (qA rx6 (qA n6 (qA er (qA aL (qA bZ UT))))))))))))) fun K hK=>?_
       refine WE.con (TI H6 _ (l.take i) x.2.1 hvt (by rw[List.length_take];omega)) fun w H7 g7 hw=>?_
       subst hw
       have rx7:H7.get H1.nx=some (.arr (gpC x) 181 0 0):=by rw[g7.get _ n6 not_false];exact rx6
       have n7:H1.nx<H7.nx:=Nat.lt_of_lt_of_le n6 g7.nx
       have g37:Gr H3 H7:=g36.gr g7
       have g7':Gr H H7:=g6'.gr g7
       refine qS (qA ad hnt) ?_
       refine hK _ _ ?_
       clear hK K
       cases hhd:tI (l.take i) x.2.1 with
       | true=>
        rw[hhd,if_pos rfl] at hr
        refine qY ?_
        refine qW hnt ?_
        exact p4 _ _ (q4 _ _ (k4 _ _ (fin 22 _ _ qp (qd hdf) g7' hr)))
       | false=>
        rw[hhd,if_neg Bool.false_ne_true] at hr
        refine qY ?_
        cases less with
        | false=>
         rw[if_neg (by exact Bool.false_ne_true)] at hr
         refine qW (qA ad (qA t1 hnt)) ?_
         refine qY ?_
         refine qW hnt ?_
         exact p1 _ _ (next _ _ g37 hr qp qp qp (by simp only[aA,hnt]) (qd hdf))
        | true=>
         cases hbr:x.2.2 with
         | true=>
          rw[hbr,if_pos (by rfl)] at hr
          refine qW (qA ad (qA t1 (qA t6 (qA hnt (qA rx7 (qA n7 (qA bZ (qA gk (qA iW hbr))))))))) ?_
          refine qY ?_
          refine qW hnt ?_
          exact p4 _ _ (q4 _ _ (k4 _ _ (fin 24 _ _ qp (qd hdf) g7' hr)))
         | false=>
          rw[hbr,if_neg (by exact Bool.false_ne_true)] at hr
          refine qW (qA ad (qA t1 (qA t6 (qA hnt (qA rx7 (qA n7 (qA bZ (qA gk (qA iW hbr))))))))) ?_
          refine qY ?_
          refine qW hnt ?_
          exact p1 _ _ (next _ _ g37 hr qp qp qp (by simp only[aA,hnt]) (qd hdf))
  ·clear hx hy Kx Ky
   have hie:i=l.length:=by omega
   rw[hie,List.drop_length,dG] at hr
   refine qW hnt ?_
   refine k2 _ _ ?_
   refine qW hnt ?_
   exact fin 0 _ _ qp (qd hdf) g1 hr
 ·simp only[aa,Nat.reduceEqDiff,reduceIte,aA,ag,h0,h1,and_self,true_and]
  exact ⟨rfl,trivial⟩
end Go.Proofs.YtnhbkodnmkojpaaGreat
namespace Go.Proofs.YtnhbkodnmkojpaaGreat
open Go Go.Eng
abbrev Nm:=List Gp×List Gp
noncomputable def dS (x:Nm):Int:=
 if (24:Int)<x.1.length∨(24:Int)<x.2.length then 3 else if x.1.length=0 then 5 else
 if dG false [] x.1≠0 then dG false [] x.1 else if dG true [] x.2≠0 then dG true [] x.2 else
 if (0<x.2.length∧kZ x.1=true) then 24 else 0
theorem pk (H:Hp) (u w:AC) (x:Nm) (hu:aD H u x.1) (hw:aD H w x.2):
  Con E2 65 [.agg [u,w]] H (fun _=>False) fun r _=>r=.one (.i .i64 (dS x)):=by
 refine Con.of rfl fun lg=>?_
 have hu:aD ⟨H.t,H.nx,lg⟩ u x.1:=hu
 have hw:aD ⟨H.t,H.nx,lg⟩ w x.2:=hw
 generalize (⟨H.t,H.nx,lg⟩:Hp)=H at hu hw ⊢
 refine C1.body (E:=E2) (nt:=40) (res:=[.tmp 2]) Tryz.func65 rfl rfl rfl rfl rfl fun tm hargs=>?_
 have h0:=hargs 0 _ rfl
 clear hargs
 have fin:∀ (e:Int) (A:ab) (H3:Hp),slot A.tm 2=.one (.i .i64 e)→A.dfr=[]→Gr H H3→e=dS x→∃ w H4,ao E2 [.tmp 2] (.ret,A,H3)=.ok [(w,H4)]∧Gr H H4∧∀ _:List Nat,w=.one (.i .i64 (dS x)):=fun e A H3 h1 h2 h3 h4=>⟨_,H3,ak (.i .i64 e) (.inr rfl) h2 h1,h3,fun _=>by rw[h4]⟩
 generalize hr0:dS x=r0 at fin
 unfold dS at hr0
 refine qG (qA ad h0) fun K hK=>?_
 refine hK _ _ ?_
 clear hK K
 refine R1.gen (fun A1 H1=>Gr H H1∧H.nx<H1.nx∧H1.get H.nx=some (.arr [u,w] 66 0 0)∧slot A1.tm 1=.one (.o (.ptr H.nx 0 0 2))∧A1.nt=40∧A1.dfr=[])
  ⟨(Fr.refl _).new _,?_⟩ ?_
 ·exact qZ h0
 rintro A1 H1 ⟨g1,n1,rx,t1,hnt,hdf⟩
 clear h0 tm
 have hu1:=hu.gr g1
 have hw1:=hw.gr g1
 by_cases h24:(24:Int)<x.1.length
 ·have c24:((24:Int)<x.1.length)=True:=eq_true h24
  rw[if_pos (.inl h24)] at hr0
  refine qW (qA ad (qA t1 (qA hnt (qA rx (qA n1 (qA bc (qA bg (qA bI (qA hu1.len (qA hu1.lt c24)))))))))) ?_
  refine qY ?_
  refine qW hnt ?_
  exact fin 3 _ _ qp (qd hdf) g1 hr0
 have c24:((24:Int)<x.1.length)=False:=eq_false h24
 by_cases h25:(24:Int)<x.2.length
 ·have c25:((24:Int)<x.2.length)=True:=eq_true h25
  rw[if_pos (.inr h25)] at hr0
  refine qW (qA ad (qA t1 (qA hnt (qA rx (qA n1 (qA bc (qA bT (qA bg (qA bI (qA hu1.len (qA hu1.lt (qA hw1.len (qA hw1.lt (qA c24 c25)))))))))))))) ?_
  refine qY ?_
  refine qW hnt ?_
  exact fin 3 _ _ qp (qd hdf) g1 hr0
 have c25:((24:Int)<x.2.length)=False:=eq_false h25
 rw[if_neg (fun h=>h.elim h24 h25)] at hr0
 refine qW (qA ad (qA t1 (qA hnt (qA rx (qA n1 (qA bc (qA bT (qA bg (qA bI (qA hu1.len (qA hu1.lt (qA hw1.len (qA hw1.lt (qA c24 c25)))))))))))))) ?_
 refine qY ?_
 by_cases hz:x.1.length=0
 ·have cz:((x.1.length:Int)==0)=true:=by rw[hz];rfl
  rw[if_pos hz] at hr0
  refine qW (qA ad (qA t1 (qA hnt (qA rx (qA n1 (qA bc (qA bg (qA bI (qA hu1.len (qA hu1.lt cz)))))))))) ?_
  refine qY ?_
  refine qW hnt ?_
  exact fin 5 _ _ qp (qd hdf) g1 hr0
 have cz:((x.1.length:Int)==0)=false:=beq_false_of_ne (by omega)
 rw[if_neg hz] at hr0
 refine qW (qA ad (qA t1 (qA hnt (qA rx (qA n1 (qA bc (qA bg (qA bI (qA hu1.len (qA hu1.lt cz)))))))))) ?_
 refine qY ?_
 refine R1.aS ?_
 refine qG (qA ad (qA t1 (qA hnt (qA rx (qA n1 (qA bc (qA bg nw))))))) fun K hK=>?_
 refine WE.con (lE H1 u x.1 false hu1 (by omega)) fun r H2 g2 hr=>?_
 subst hr
 have rx2:H2.get H.nx=some (.arr [u,w] 66 0 0):=by rw[g2.get _ n1 not_false];exact rx
 have n2:H.nx<H2.nx:=Nat.lt_of_lt_of_le n1 g2.nx
 have g2':=g1.gr g2
 refine qS (qA ad hnt) ?_
 refine hK _ _ ?_
 clear hK K
 generalize dG false [] x.1=e1 at hr0 ⊢
 by_cases he1:e1=0
 case neg=>
  have ce:(e1 != 0)=true:=bne_iff_ne.2 he1
  rw[if_pos he1] at hr0
  refine qW (qA ad (qA hnt ce)) ?_
  refine qE fun Kx Ky hx hy=>?_
  refine db (fun _=>hx ?_) (fun h=>absurd ce (by simpa using h))
  clear hx hy Kx Ky
  refine qW hnt ?_
  exact fin e1 _ _ qp (qd hdf) g2' hr0
 rw[if_neg (fun h=>h he1)] at hr0
 refine qW (qA ad (qA hnt he1)) ?_
 refine qY ?_
 refine R1.aS ?_
 refine qG (qA ad (qA t1 (qA hnt (qA rx2 (qA n2 (qA bT (qA bg nw))))))) fun K hK=>?_
 refine WE.con (lE H2 w x.2 true (hw1.gr g2) (by omega)) fun r H3 g3 hr=>?_
 subst hr
 have rx3:H3.get H.nx=some (.arr [u,w] 66 0 0):=by rw[g3.get _ n2 not_false];exact rx2
 have n3:H.nx<H3.nx:=Nat.lt_of_lt_of_le n2 g3.nx
 have g3':=g2'.gr g3
 have hu3:=(hu1.gr g2).gr g3
 have hw3:=(hw1.gr g2).gr g3
 refine qS (qA ad hnt) ?_
 refine hK _ _ ?_
 clear hK K
 generalize dG true [] x.2=e2 at hr0 ⊢
 by_cases he2:e2=0
 case neg=>
  have ce:(e2 != 0)=true:=bne_iff_ne.2 he2
  rw[if_pos he2] at hr0
  refine qW (qA ad (qA hnt ce)) ?_
  refine qE fun Kx Ky hx hy=>?_
  refine db (fun _=>hx ?_) (fun h=>absurd ce (by simpa using h))
  clear hx hy Kx Ky
  refine qW hnt ?_
  exact fin e2 _ _ qp (qd hdf) g3' hr0
 rw[if_neg (fun h=>h he2)] at hr0
 refine qW (qA ad (qA hnt he2)) ?_
 refine qY ?_
 refine R1.aS ?_
 by_cases hp:0<x.2.length
 ·have cp:((0:Int)<x.2.length)=True:=eq_true (by omega)
  refine qG (qA ad (qA t1 (qA hnt (qA rx3 (qA n3 (qA bc (qA bT (qA bg (qA bI (qA hu3.lt (qA hw3.len (qA hw3.lt (qA cp wZ))))))))))))) fun K hK=>?_
  refine WE.con (uI H3 u x.1 hu3 (by omega)) fun r H4 g4 hr=>?_
  subst hr
  have g4':=g3'.gr g4
  refine qS (qA ad hnt) ?_
  refine hK _ _ ?_
  clear hK K
  cases hb:kZ x.1 with
  | true=>
   rw[if_pos ⟨hp,hb⟩] at hr0
   refine qY ?_
   refine qW hnt ?_
   exact fin 24 _ _ qp (qd hdf) g4' hr0
  | false=>
   rw[if_neg (fun h=>by rw[hb] at h;cases h.2)] at hr0
   refine qY ?_
   refine qW hnt ?_
   exact fin 0 _ _ qp (qd hdf) g4' hr0
 ·have cp:((0:Int)<x.2.length)=False:=eq_false (by omega)
  rw[if_neg (fun h=>hp h.1)] at hr0
  refine qW (qA ad (qA t1 (qA hnt (qA rx3 (qA n3 (qA bc (qA bT (qA bg (qA bI (qA hu3.lt (qA hw3.len (qA hw3.lt cp)))))))))))) ?_
  refine qY ?_
  refine qW hnt ?_
  exact fin 0 _ _ qp (qd hdf) g3' hr0
theorem nQ (H:Hp) (u w:AC) (x:Nm) (hu:aD H u x.1) (hw:aD H w x.2):
  Con E2 88 [.agg [u,w]] H (fun _=>False) fun r _=>r=.one (.i .i64 (dS x)):=by
 refine Con.of rfl fun lg=>?_
 have hu:aD ⟨H.t,H.nx,lg⟩ u x.1:=hu
 have hw:aD ⟨H.t,H.nx,lg⟩ w x.2:=hw
 generalize (⟨H.t,H.nx,lg⟩:Hp)=H at hu hw ⊢
 refine C1.body (E:=E2) (nt:=40) (res:=[.tmp 2]) Tryz.func88 rfl rfl rfl rfl rfl fun tm hargs=>?_
 have h0:=hargs 0 _ rfl
 clear hargs
 have fin:∀ (e:Int) (A:ab) (H3:Hp),slot A.tm 2=.one (.i .i64 e)→A.dfr=[]→Gr H H3→e=dS x→∃ w H4,ao E2 [.tmp 2] (.ret,A,H3)=.ok [(w,H4)]∧Gr H H4∧∀ _:List Nat,w=.one (.i .i64 (dS x)):=fun e A H3 h1 h2 h3 h4=>⟨_,H3,ak (.i .i64 e) (.inr rfl) h2 h1,h3,fun _=>by rw[h4]⟩
 generalize hr0:dS x=r0 at fin
 unfold dS at hr0
 refine qG (qA ad h0) fun K hK=>?_
 refine hK _ _ ?_
 clear hK K
 refine R1.gen (fun A1 H1=>Gr H H1∧H.nx<H1.nx∧H1.get H.nx=some (.arr [u,w] 66 0 0)∧slot A1.tm 1=.one (.o (.ptr H.nx 0 0 2))∧A1.nt=40∧A1.dfr=[])
  ⟨(Fr.refl _).new _,?_⟩ ?_
 ·exact qZ h0
 rintro A1 H1 ⟨g1,n1,rx,t1,hnt,hdf⟩
 clear h0 tm
 have hu1:=hu.gr g1
 have hw1:=hw.gr g1
 by_cases h24:(24:Int)<x.1.length
 ·have c24:((24:Int)<x.1.length)=True:=eq_true h24
  rw[if_pos (.inl h24)] at hr0
  refine qW (qA ad (qA t1 (qA hnt (qA rx (qA n1 (qA bc (qA bg (qA bI (qA hu1.len (qA hu1.lt c24)))))))))) ?_
  refine qY ?_
  refine qW hnt ?_
  exact fin 3 _ _ qp (qd hdf) g1 hr0
 have c24:((24:Int)<x.1.length)=False:=eq_false h24
 by_cases h25:(24:Int)<x.2.length
 ·have c25:((24:Int)<x.2.length)=True:=eq_true h25
  rw[if_pos (.inr h25)] at hr0
  refine qW (qA ad (qA t1 (qA hnt (qA rx (qA n1 (qA bc (qA bT (qA bg (qA bI (qA hu1.len (qA hu1.lt (qA hw1.len (qA hw1.lt (qA c24 c25)))))))))))))) ?_
  refine qY ?_
  refine qW hnt ?_
  exact fin 3 _ _ qp (qd hdf) g1 hr0
 have c25:((24:Int)<x.2.length)=False:=eq_false h25
 rw[if_neg (fun h=>h.elim h24 h25)] at hr0
 refine qW (qA ad (qA t1 (qA hnt (qA rx (qA n1 (qA bc (qA bT (qA bg (qA bI (qA hu1.len (qA hu1.lt (qA hw1.len (qA hw1.lt (qA c24 c25)))))))))))))) ?_
 refine qY ?_
 by_cases hz:x.1.length=0
 ·have cz:((x.1.length:Int)==0)=true:=by rw[hz];rfl
  rw[if_pos hz] at hr0
  refine qW (qA ad (qA t1 (qA hnt (qA rx (qA n1 (qA bc (qA bg (qA bI (qA hu1.len (qA hu1.lt cz)))))))))) ?_
  refine qY ?_
  refine qW hnt ?_
  exact fin 5 _ _ qp (qd hdf) g1 hr0
 have cz:((x.1.length:Int)==0)=false:=beq_false_of_ne (by omega)
 rw[if_neg hz] at hr0
 refine qW (qA ad (qA t1 (qA hnt (qA rx (qA n1 (qA bc (qA bg (qA bI (qA hu1.len (qA hu1.lt cz)))))))))) ?_
 refine qY ?_
 refine R1.aS ?_
 refine qG (qA ad (qA t1 (qA hnt (qA rx (qA n1 (qA bc (qA bg vm))))))) fun K hK=>?_
 refine WE.con (rY H1 u x.1 false hu1 (by omega)) fun r H2 g2 hr=>?_
 subst hr
 have rx2:H2.get H.nx=some (.arr [u,w] 66 0 0):=by rw[g2.get _ n1 not_false];exact rx
 have n2:H.nx<H2.nx:=Nat.lt_of_lt_of_le n1 g2.nx
 have g2':=g1.gr g2
 refine qS (qA ad hnt) ?_
 refine hK _ _ ?_
 clear hK K
 generalize dG false [] x.1=e1 at hr0 ⊢
 by_cases he1:e1=0
 case neg=>
  have ce:(e1 != 0)=true:=bne_iff_ne.2 he1
  rw[if_pos he1] at hr0
  refine qW (qA ad (qA hnt ce)) ?_
  refine qE fun Kx Ky hx hy=>?_
  refine db (fun _=>hx ?_) (fun h=>absurd ce (by simpa using h))
  clear hx hy Kx Ky
  refine qW hnt ?_
  exact fin e1 _ _ qp (qd hdf) g2' hr0
 rw[if_neg (fun h=>h he1)] at hr0
 refine qW (qA ad (qA hnt he1)) ?_
 refine qY ?_
 refine R1.aS ?_
 refine qG (qA ad (qA t1 (qA hnt (qA rx2 (qA n2 (qA bT (qA bg vm))))))) fun K hK=>?_
 refine WE.con (rY H2 w x.2 true (hw1.gr g2) (by omega)) fun r H3 g3 hr=>?_
 subst hr
 have rx3:H3.get H.nx=some (.arr [u,w] 66 0 0):=by rw[g3.get _ n2 not_false];exact rx2
 have n3:H.nx<H3.nx:=Nat.lt_of_lt_of_le n2 g3.nx
 have g3':=g2'.gr g3
 have hu3:=(hu1.gr g2).gr g3
 have hw3:=(hw1.gr g2).gr g3
 refine qS (qA ad hnt) ?_
 refine hK _ _ ?_
 clear hK K
 generalize dG true [] x.2=e2 at hr0 ⊢
 by_cases he2:e2=0
 case neg=>
  have ce:(e2 != 0)=true:=bne_iff_ne.2 he2
  rw[if_pos he2] at hr0
  refine qW (qA ad (qA hnt ce)) ?_
  refine qE fun Kx Ky hx hy=>?_
  refine db (fun _=>hx ?_) (fun h=>absurd ce (by simpa using h))
  clear hx hy Kx Ky
  refine qW hnt ?_
  exact fin e2 _ _ qp (qd hdf) g3' hr0
 rw[if_neg (fun h=>h he2)] at hr0
 refine qW (qA ad (qA hnt he2)) ?_
 refine qY ?_
 refine R1.aS ?_
 by_cases hp:0<x.2.length
 ·have cp:((0:Int)<x.2.length)=True:=eq_true (by omega)
  refine qG (qA ad (qA t1 (qA hnt (qA rx3 (qA n3 (qA bc (qA bT (qA bg (qA bI (qA hu3.lt (qA hw3.len (qA hw3.lt (qA cp vc))))))))))))) fun K hK=>?_
  refine WE.con (si H3 u x.1 hu3 (by omega)) fun r H4 g4 hr=>?_
  subst hr
  have g4':=g3'.gr g4
  refine qS (qA ad hnt) ?_
  refine hK _ _ ?_
  clear hK K
  cases hb:kZ x.1 with
  | true=>
   rw[if_pos ⟨hp,hb⟩] at hr0
   refine qY ?_
   refine qW hnt ?_
   exact fin 24 _ _ qp (qd hdf) g4' hr0
  | false=>
   rw[if_neg (fun h=>by rw[hb] at h;cases h.2)] at hr0
   refine qY ?_
   refine qW hnt ?_
   exact fin 0 _ _ qp (qd hdf) g4' hr0
 ·have cp:((0:Int)<x.2.length)=False:=eq_false (by omega)
  rw[if_neg (fun h=>hp h.1)] at hr0
  refine qW (qA ad (qA t1 (qA hnt (qA rx3 (qA n3 (qA bc (qA bT (qA bg (qA bI (qA hu3.lt (qA hw3.len (qA hw3.lt cp)))))))))))) ?_
  refine qY ?_
  refine qW hnt ?_
  exact fin 0 _ _ qp (qd hdf) g3' hr0
end Go.Proofs.YtnhbkodnmkojpaaGreat

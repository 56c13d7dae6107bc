/- A part of the proof: BkTb15, BkTb16, BkCo1, BkCo2, BkCo4, BkCo5, BkCo6, BkTArg, BkFacts7, BkSw1, BkSw2, BkSw3. No conditions. -/
import Derived.Test.YtnhbkodnmkojpaaGreatRAp
import Derived.KernelRfl
import Derived.Sort.Defs
import Derived.Sort.Lot0
set_option maxRecDepth 100000
set_option maxHeartbeats 64000000
set_option linter.unusedVariables false
set_option linter.unusedSimpArgs false
noncomputable section
namespace Go.Proofs.YtnhbkodnmkojpaaGreat
open Go Go.Eng
theorem Eu:ak Tryz.prog 31=true:=by kernel_rfl
theorem AY:ak Tryz.prog 79=true:=by kernel_rfl
theorem HA:ak Tryz.prog 78=true:=by kernel_rfl
theorem Xb:∀ (H:Hp) (lg:List Nat) (c:List AC) (x:Int),GS H c x→GS ⟨H.t,H.nx,lg⟩ c x:=fun _ _ _ _ h=>h
theorem dQ.lg {X:Nat→Prop} {H:Hp} {cl:List Cl} {rl:List Rl} {el:List Int} {cv rv ev:AC} (h:dQ X H cl rl el cv rv ev) (l:List Nat):dQ X ⟨H.t,H.nx,l⟩ cl rl el cv rv ev:=by
 obtain ⟨col,r1,r2,r3,h1,h2,h3⟩:=h.own;exact ⟨col,r1,r2,r3,bK.lg Wq h1 l,bK.lg YG h2 l,bK.lg Xb h3 l⟩
theorem AL (H:Hp) (k gv v:AC) (o:Option (List Lad)) (gs:List Gd) (nm:List UInt8) (cs:List Cs) (hk:cU H k o) (G3:∀ ls,o=some ls→∀ x∈ls,x.2.length≤1000000) (hg:SlG H gv gs) (hv:dI H v cs) (hB:TbB cs) (hO:∀ x∈gs,x.2.2.length≤4611686018427387904):
  Con E2 31 [.one k,.one gv,.agg [.o (.str nm),v]] H (fun _=>False) fun r H'=>∃ a b ev,r=.tup [(true,[a,b]),(false,[ev]),(false,[.i .i64 (eY o gs (nm,cs))])]∧dQ (fun j=>j<H.nx) H' (js o gs (nm,cs)).1 (js o gs (nm,cs)).2 (bu 0 (fQ o gs (nm,cs))) a b ev:=by
 refine Con.of rfl fun lg=>?_;have hk:cU ⟨H.t,H.nx,lg⟩ k o:=cU.same (H:=H) rfl rfl hk;have hg:SlG ⟨H.t,H.nx,lg⟩ gv gs:=hg;have hv:dI ⟨H.t,H.nx,lg⟩ v cs:=hv;have e0:H.nx=(⟨H.t,H.nx,lg⟩:Hp).nx:=rfl;rw[e0];clear e0;generalize (⟨H.t,H.nx,lg⟩:Hp)=H at hk hg hv ⊢;refine C1.body (E:=E2) (nt:=165) (res:=[.cell 6 37,.tmp 7,.tmp 8]) Tryz.func31 rfl rfl rfl rfl rfl fun tm A0=>?_;have h0:=A0 0 _ rfl;have h1:=A0 1 _ rfl;have h2:=A0 2 _ rfl;clear A0;have hl:cs.length*120≤140737488355328:=hB.c;generalize S6:js o gs (nm,cs)=p0;generalize M1:eY o gs (nm,cs)=e0;generalize V9:bu 0 (fQ o gs (nm,cs))=q0;have fin:∀ (a b ev:AC) (A:ab) (H9:Hp) (M:Nat),slot A.tm 6=.one (.o (.ptr M 0 0 2))→slot A.tm 7=.one ev→slot A.tm 8=.one (.i .i64 e0)→closeAll H9 A.dfr=some H9→H9.get M=some (.arr [a,b] 37 0 0)→Gr H H9→dQ (fun j=>j<H.nx) H9 p0.1 p0.2 q0 a b ev →
   ∃ w H4,an E2 [.cell 6 37,.tmp 7,.tmp 8] (.ret,A,H9)=.ok [(w,H4)]∧Gr H H4∧∀ lg:List Nat,∃ a b ev,w=.tup [(true,[a,b]),(false,[ev]),(false,[.i .i64 e0])]∧dQ (fun j=>j<H.nx) ⟨H4.t,H4.nx,lg⟩ p0.1 p0.2 q0 a b ev:=fun a b ev A H9 M s6 s7 s8 hd r1 P0 h1=>
  ⟨_,H9,cE (.inr rfl) hd (uz jZ s6 (by rw[r1];exact TS) (zA1 _) rfl (Cd s7 (Cd s8 Jn))),P0,fun lg=>⟨a,b,ev,rfl,h1.lg lg⟩⟩
 have bad:∀ (e:Int),e≠0→e0=e→∀ H9:Hp,dQ (fun j=>j<H.nx) H9 p0.1 p0.2 q0 (.o .nilS) (.o .nilS) (.o .nilS):=fun e Z0 he H9=>by
  have hk0:fQ o gs (nm,cs)=[]:=zB1 (by rw[M1,he];exact Z0);rw[←S6,←V9];unfold js;rw[hk0];exact dQ.nil
 have lv:=hv.lt;replace S6:Hd _:=S6;replace M1:Hd _:=M1;replace V9:Hd _:=V9;refine zG tyF fun K hK=>?_;refine hK.out _ _ ?_;refine R1.gen (fun A1 H1=>Gr H H1∧H.nx+1<H1.nx∧H1.get H.nx=some (.arr [.o (.str nm),v] 26 0 0)∧H1.get (H.nx+1)=some (.arr [.o .nilS,.o .nilS] 37 0 0)∧slot A1.tm 0=.one (k)∧slot A1.tm 1=.one (gv)∧slot A1.tm 5=.one ((.o (.ptr H.nx 0 0 2)))∧slot A1.tm 6=.one ((.o (.ptr (H.nx+1) 0 0 2)))∧slot A1.tm 7=.one ((.o .nilS))∧A1.nt=165∧A1.dfr=[])
  ⟨((Fr.refl _).new _).new _,by show H.nx+1<H.nx+1+1;omega,by rw[aW (by show H.nx<H.nx+1;omega)];exact aB rfl,aB rfl,zL⟩ ?_
 clear h0 h1 h2 tm hK K lv;rintro A1 H1 ⟨g1,n1,r0,r1,t0,t1,t5,t6,t7,B0,C0⟩;obtain ⟨N,hN⟩:∃ N,N=H.nx:=⟨_,rfl⟩;rw[←hN] at n1 r0 r1 t5 t6;have hNl:H.nx≤N:=Nat.le_of_eq hN.symm;replace hN:Hd _:=hN;have n0:N<H1.nx:=by omega
 have Q3:=hk.gr g1;have M4:=hg.gr g1;refine zG (qA tyF xH) fun K hK=>?_;refine WE.con (xy H1 k gv o gs Q3 G3 M4 hO) fun w2 H2 g2 W1=>?_;subst W1;have r0:=(g2.get _ n0 zB2).trans r0;have n0:=zA0 n0 g2.nx;have r1:=(g2.get _ n1 zB2).trans r1;have n1:=zA0 n1 g2.nx;have g2:=g1.gr g2;clear g1 Q3 M4;by_cases c1:jS o gs=0
 case neg=>
  have he:e0=jS o gs:=by rw[←M1.out];exact zB0 c1
  have b1:=bad _ c1 he ((H2.mod (N+1) (.arr [.o .nilS,.o .nilS] 37 0 0)));have e1:(jS o gs==0)=false:=zB5 c1;rw[←he] at e1 ⊢;have g9:=g2.mod (i:=N+1) (.arr [.o .nilS,.o .nilS] 37 0 0) (.inl (by omega));replace b1:Hd _:=b1;replace g9:Hd _:=g9;clear c1 he bad;refine zK tyF ?_;exact fin _ _ _ _ _ (N+1) (by simp only[aa,Nat.reduceEqDiff,reduceIte,t6]) qp qp (by simp only[aj,C0];rfl) (al rfl) g9.out b1.out
 have hL:gs.length≤1000000:=vp c1;rw[c1];have X1:=hv.gr g2;have lv:=X1.lt;refine zK tyF ?_;refine zG (qA tyF Ju) fun K hK=>?_;refine WE.con (HO H2 nm v cs X1 hB) fun w3 H3 g3 S4=>?_;subst S4;have r0:=(g3.get _ n0 zB2).trans r0;have n0:=zA0 n0 g3.nx;have r1:=(g3.get _ n1 zB2).trans r1;have n1:=zA0 n1 g3.nx;have g3:=g2.gr g3;clear g2 lv X1;by_cases c2:kC (nm,cs)=0
 case neg=>
  have he:e0=kC (nm,cs):=by
   rw[←M1.out];unfold eY;rw[zB1 (fun h=>h c1),zB0 c2]
  have b1:=bad _ c2 he ((H3.mod (N+1) (.arr [.o .nilS,.o .nilS] 37 0 0)));have e1:(kC (nm,cs)==0)=false:=zB5 c2;rw[←he] at e1 ⊢;have g9:=g3.mod (i:=N+1) (.arr [.o .nilS,.o .nilS] 37 0 0) (.inl (by omega));replace b1:Hd _:=b1;replace g9:Hd _:=g9;clear c1 c2 he bad;refine zK tyF ?_;exact fin _ _ _ _ _ (N+1) (by simp only[aa,Nat.reduceEqDiff,reduceIte,t6]) qp qp (by simp only[aj,C0];rfl) (al rfl) g9.out b1.out
 rw[c2];have G5:=hv.gr g3;have lv:=G5.lt;have ll:=G5.len;have Z9:e0=(cA gs 0 cs []).2:=by
  rw[←M1.out];unfold eY;rw[zB1 (fun h=>h c1),zB1 (fun h=>h c2)]
 have Y3:e0=0→fQ o gs (nm,cs)=(cA gs 0 cs []).1:=fun h=>zB0 (by rw[M1.out];exact h);clear c1 c2;refine zK tyF ?_;refine R1.gen (fun A5 H5=>Gr H H5∧H3.nx+1=H5.nx∧H5.get N=some (.arr [.o (.str nm),v] 26 0 0)∧H5.get (N+1)=some (.arr [.o .nilS,.o .nilS] 37 0 0)∧H5.get H3.nx=some (hY kvT [])∧slot A5.tm 1=.one (gv)∧slot A5.tm 5=.one ((.o (.ptr N 0 0 2)))∧slot A5.tm 6=.one ((.o (.ptr (N+1) 0 0 2)))∧slot A5.tm 7=.one ((.o .nilS))∧slot A5.tm 11=.one ((.o (.mp H3.nx)))∧A5.nt=165∧A5.dfr=[])
  ⟨g3.new _,rfl,by rw[aW n0];exact r0,by rw[aW n1];exact r1,aB rfl,zL⟩ ?_
 clear t0 t1 t5 t6 t7 B0 C0 A1 r0 r1 lv ll;rintro A5 H5 ⟨g5,nB,r0,r1,rMM,t1,t5,t6,t7,t11,B0,C0⟩;obtain ⟨MM,hMM⟩:∃ MM,MM=H3.nx:=⟨_,rfl⟩;have n0:N<H5.nx:=by omega
 have hNM:N+1<MM:=by omega
 rw[←hMM] at nB rMM t11;obtain ⟨B,hBB⟩:∃ B,B=H5.nx:=⟨_,rfl⟩;have hMB:MM<B:=by omega
 have hB5:B≤H5.nx:=Nat.le_of_eq hBB;clear hMM hBB nB g3 G5 n1;have hv5:=hv.gr g5;have lv:=hv5.lt;have ll:=hv5.len;replace Z9:Hd _:=Z9;replace Y3:Hd _:=Y3;refine zW tyF ?_;clear lv ll hv5;generalize E0:cA gs 0 cs []=r9 at Z9 Y3;replace E0:Hd _:=E0;refine R1.cy fun K k1 k2 k3 k4=>?_;refine R1.loop (fun z A H6=>∃ (i:Nat) (kl:List (Cl×Int)) (ml:List ((List UInt8×Int)×AC)) (cv rv ev:AC),z=cs.length - i∧i≤cs.length∧kl.length≤64∧Gr H H6∧B≤H6.nx∧H6.get (N+1)=some (.arr [cv,rv] 37 0 0)∧H6.get MM=some (hY kvT ml)∧Hd (vl ml kl)∧Hd (cA gs i (cs.drop i) kl=r9)∧Hd (dQ (fun j=>j<B) H6 (kl.map Prod.fst) (dn gs [] kl) (bu 0 kl) cv rv ev) ∧
   slot A.tm 1=.one (gv)∧slot A.tm 6=.one ((.o (.ptr (N+1) 0 0 2)))∧slot A.tm 7=.one (ev)∧slot A.tm 11=.one ((.o (.mp MM)))∧slot A.tm 36=.one (v)∧slot A.tm 37=.one (.i .i64 (cs.length:Int))∧slot A.tm 38=.one (.i .i64 (i:Int))∧A.nt=165∧A.dfr=[]) ?_ cs.length
  ⟨0,[],[],.o .nilS,.o .nilS,.o .nilS,rfl,Nat.zero_le _,Nat.zero_le _,g5,hB5,r1,rMM,vl.nil,E0,dQ.nil,zL⟩
 clear t1 t5 t6 t7 t11 B0 C0 A5 r0 r1 rMM k3 g5 E0 hB5 n0 H5;rintro z A H6 ⟨i,kl,ml,cv,rv,ev,rfl,hi,S5,g6,nB,rP,rM,N3,hr,Z4,t1,t6,t7,t11,t36,t37,t38,B0,C0⟩;have nP6:N+1<H6.nx:=by omega
 have nM6:MM<H6.nx:=by omega
 have hv6:=hv.gr g6;have l2:=hv6.lt;refine zW tyF ?_;refine zI tyF (fun hc=>?_) (fun hc=>?_)
 ·have D0:i<cs.length:=by omega
  have ex:cs[i]?=some cs[i]:=zB4 D0;have Q0:cs.drop i=cs[i]::cs.drop (i+1):=List.drop_eq_getElem_cons D0;have B1:cs.take (i+1)=cs.take i++[cs[i]]:=List.take_succ_eq_append_getElem D0;have G0:cs[i]∈cs:=List.getElem_mem D0;generalize cs[i]=x at ex Q0 B1 G0;have V0:=zC0 i (by omega);obtain ⟨id,g,off,cells,rfl,hid,P0,L0⟩:=hv6.open (by omega);obtain ⟨p,q,w,hx⟩:=L0 i x ex;have y1:=hx.all;have y2:=hx.le;have hp:=hx.of1;have hq:=hx.of2;have hBn:=hB.n x G0;have F0:=hr.out;rw[Q0,cA] at F0;clear hx L0 Q0 ex G0 B1 hr;replace F0:Hd _:=F0;refine zW tyF ?_;refine R1.cy fun K2 p1 p2 p3 p4=>?_;refine zG (qA tyF (ixC D0)) fun K3 l5=>?_;refine l5.out _ _ ?_;refine R1.gen (fun A7 H7=>Gr H6 H7∧H6.nx<H7.nx∧H7.get H6.nx=some (.arr [.i .i64 x.face,.i .i64 x.col,.i .i64 x.line,.i .i64 x.kind,p,q,.o (.str x.good),w] 69 0 0)∧slot A7.tm 1=.one (gv)∧slot A7.tm 6=.one ((.o (.ptr (N+1) 0 0 2)))∧slot A7.tm 7=.one (ev)∧slot A7.tm 11=.one ((.o (.mp MM)))∧slot A7.tm 12=.one (.i .i64 (i:Int))∧slot A7.tm 13=.one ((.o (.ptr H6.nx 0 0 8)))∧slot A7.tm 36=.one ((.o (.sl id g off cs.length 8)))∧slot A7.tm 37=.one (.i .i64 (cs.length:Int))∧slot A7.tm 38=.one (.i .i64 (i:Int))∧A7.nt=165∧A7.dfr=[])
   ⟨((Fr.refl _).new _).mod _ (.inl (zA1 _)),zA6 _,al rfl,zL⟩ ?_
  clear t1 t6 t7 t11 t36 t37 t38 B0 C0 A y1 y2 l5 K3 P0 hid l2;rintro A H7 ⟨g7,mC,rC,t1,t6,t7,t11,t12,t13,t36,t37,t38,B0,C0⟩;obtain ⟨M,hM⟩:∃ M,M=H6.nx:=⟨_,rfl⟩;have hBM:B≤M:=by omega
  have N9:dQ (fun j=>j<B∨j=M) H7 (kl.map Prod.fst) (dn gs [] kl) (bu 0 kl) cv rv ev:=(Z4.out.less fun i h=>h.elim .inl fun h=>.inr (by omega)).gr g7;rw[←hM] at mC rC t13;clear hM Z4;have rP:=(g7.get _ nP6 zB2).trans rP;have nP6:=zA0 nP6 g7.nx;have rM:=(g7.get _ nM6 zB2).trans rM;have nM6:=zA0 nM6 g7.nx;have g67:=g6.gr g7;have hg7:=hg.gr g67;have hp7:=hp.gr g7;have z_:=hq.gr g7;have nB7:B≤H7.nx:=by have:=g7.nx;omega
  clear g6 hv6 hp hq g7 nB;replace N9:Hd _:=N9;have go:Hd (∀ (kl':List (Cl×Int)) (ml':List ((List UInt8×Int)×AC)) (cv' rv' ev':AC) (A:ab) (H5:Hp),slot A.tm 1=.one (gv)∧slot A.tm 6=.one ((.o (.ptr (N+1) 0 0 2)))∧slot A.tm 7=.one (ev')∧slot A.tm 11=.one ((.o (.mp MM)))∧slot A.tm 36=.one ((.o (.sl id g off cs.length 8)))∧slot A.tm 37=.one (.i .i64 (cs.length:Int))∧slot A.tm 38=.one (.i .i64 (i:Int))∧A.nt=165∧A.dfr=[]→kl'.length≤64→Gr H H5→B≤H5.nx→H5.get (N+1)=some (.arr [cv',rv'] 37 0 0)→H5.get MM=some (hY kvT ml')→vl ml' kl'→cA gs (i+1) (cs.drop (i+1)) kl'=r9→dQ (fun j=>j<B∨j=M) H5 (kl'.map Prod.fst) (dn gs [] kl') (bu 0 kl') cv' rv' ev'→K2 (.exit 1) A H5∧K2 .normal A H5):=by
   clear t1 t6 t7 t11 t12 t13 t36 t37 t38 B0 C0 F0 N9 g67 hg7 hp7 z_ rC mC rP rM A S5 N3 nP6 nM6 nB7;rintro kl' ml' cv' rv' ev' A H5 ⟨t1,t6,t7,t11,t36,t37,t38,B0,C0⟩ S5 g5 nB rP rM N3 N2 l_;have l_:=l_.less (X':=fun j=>j<B) fun j h=>.inl (.inl h);replace N2:Hd _:=N2;replace l_:Hd _:=l_;replace N3:Hd _:=N3;constructor
   ·refine p2.out _ _ ?_;refine zW tyF ?_;exact ⟨cs.length - (i+1),by omega,i+1,kl',ml',cv',rv',ev',rfl,D0,S5,g5,nB,rP,rM,N3,N2,l_,zL⟩
   refine p1.out _ _ ?_;refine zW tyF ?_;exact ⟨cs.length - (i+1),by omega,i+1,kl',ml',cv',rv',ev',rfl,D0,S5,g5,nB,rP,rM,N3,N2,l_,zL⟩
  by_cases c1:x.kind=4∨x.good=[]
  ·have J0:=F0.out;rw[zB0 c1] at J0;replace J0:Hd _:=J0;clear F0;by_cases c4:x.kind=4
   ·have e1:(x.kind==4)=true:=beq_iff_eq.2 c4;clear c1 c4;refine zW tyF ?_;exact (go.out kl ml cv rv ev _ _ zL S5 g67 nB7 rP rM N3.out J0.out N9.out).1
   have e1:(x.kind==4)=false:=zB5 c4;have e2:lEq x.good []=true:=by rw[bO,c1.resolve_left c4];rfl
   clear c1 c4;refine zW tyF ?_;exact (go.out kl ml cv rv ev _ _ zL S5 g67 nB7 rP rM N3.out J0.out N9.out).1
  have J0:=F0.out;rw[zB1 c1] at J0;have e1:(x.kind==4)=false:=zB5 fun h=>c1 (.inl h);have e2:lEq x.good []=false:=by rw[bO];exact zB5 fun h=>c1 (.inr h)
  replace J0:Hd _:=J0;clear F0 c1;refine zW tyF ?_;refine zG (qA tyF sE) fun K3 l5=>?_;refine WE.con (oM H7 gv gs x.good hg7 hL) fun w8 H8 g8 hq8=>?_;subst hq8;have rP:=(g8.get _ nP6 zB2).trans rP;have nP6:=zA0 nP6 g8.nx;have rM:=(g8.get _ nM6 zB2).trans rM;have nM6:=zA0 nM6 g8.nx;have rC:=(g8.get _ mC zB2).trans rC;have mC:=zA0 mC g8.nx;have k_:=N9.out.gr g8;have g68:=g67.gr g8;have hg8:=hg7.gr g8;have hp8:=hp7.gr g8;have hq8:=z_.gr g8;have nB8:B≤H8.nx:=by have:=g8.nx;omega
  replace k_:Hd _:=k_;clear N9 g67 hg7 hp7 z_ g8 nB7;have badE:Hd (∀ (e:Int) (A:ab),slot A.tm 6=.one ((.o (.ptr (N+1) 0 0 2)))∧slot A.tm 7=.one ((.o .nilS))∧slot A.tm 8=.one ((.i .i64 e))∧A.nt=165∧A.dfr=[]→closeAll (H8.mod (N+1) (.arr [.o .nilS,.o .nilS] 37 0 0)) A.dfr=some (H8.mod (N+1) (.arr [.o .nilS,.o .nilS] 37 0 0))→(([]:List (Cl×Int)),e)=r9→e≠0→K2 .ret A (H8.mod (N+1) (.arr [.o .nilS,.o .nilS] 37 0 0))):=by
   clear t1 t6 t7 t11 t12 t13 t36 t37 t38 B0 C0 go J0 A l5 K3;rintro e A ⟨t6,t7,t8,B0,C0⟩ W0 hn Z0;have he:e0=e:=by rw[Z9.out,←hn]
   have b1:=bad e Z0 he (H8.mod (N+1) (.arr [.o .nilS,.o .nilS] 37 0 0));subst he;exact p4.out _ _ (k4.out _ _ (fin _ _ _ _ _ (N+1) t6 t7 t8 W0 (al rfl) (g68.mod _ (.inl (by omega))) b1))
  clear bad fin;by_cases c2:bp 0 gs x.good<0
  ·have hn:(([]:List (Cl×Int)),(4:Int))=r9:=by rw[←J0.out];exact (zB0 c2).symm
   replace hn:Hd _:=hn;clear J0 go;refine zK tyF ?_;refine R1.cy fun K5 m1 m2 m3 m4=>?_;refine zW tyF ?_;exact m4.out _ _ (badE.out 4 _ zL (by simp only[aj,C0];rfl) hn.out (by decide))
  have N2:=J0.out;rw[zB1 c2] at N2;replace N2:Hd _:=N2;clear J0;obtain ⟨gi,hgi,V3,hgn⟩:=jD (by omega:0≤bp 0 gs x.good);rw[hgi] at c2 ⊢;have I6:=(List.getElem?_eq_some_iff.1 V3).1;obtain ⟨gid,gg,goff,gcells,rfl,J',L',I8⟩:=hg.open (by omega);have X_:=zA0 J' g68.nx;have Y_:rowOf (H8.get gid) gg=some gcells:=by rw[g68.get _ J' zB2];exact L'
  obtain ⟨gu,F7⟩:=I8 gi _ V3;have z1:=F7.le;have hguH:=F7.of;have hgu:=hguH.gr g68;have lu:=hgu.len;have lu2:=hgu.lt;have z2:(gcells.drop (goff+gi*3+2)).headD (.b false)=gu:=F7.f3;have z3:(gcells.drop (goff+gi*3+1)).headD (.b false)=.o (.str (fP gs x.good).2.1):=F7.f2;have z4:=F7.le2;have z5:=F7.le3;have z0:(gcells.drop (goff+gi*3)).take 3=[.o (.str (fP gs x.good).1),.o (.str (fP gs x.good).2.1),gu]:=F7.all;have hBg:=hO _ (List.mem_of_getElem? V3);clear V3 I8 F7 hgi hgn;replace hBg:Hd _:=hBg;replace L':Hd _:=L';replace hguH:Hd _:=hguH;generalize O7:fP gs x.good=gd at *;replace O7:Hd _:=O7;have ll8:cQ H8 1 (.one cv)=.val (.one (.i .i64 (kl.length:Int))) H8:=by
   have:=k_.out.c.len;rwa [List.length_map] at this
  have lv8:ltV (.one cv) H8.nx:=k_.out.c.lt;refine zK tyF ?_;refine R1.cy fun K5 m1 m2 m3 m4=>?_;refine zW tyF ?_;repeat refine R1.aE ?_
  refine R1.s_h (by kernel_rfl) fun K6 hK6=>?_;have key:Hd (∀ (b:Bool) (A:ab),slot A.tm 1=.one ((.o (.sl gid gg goff gs.length 3)))∧slot A.tm 6=.one ((.o (.ptr (N+1) 0 0 2)))∧slot A.tm 7=.one (ev)∧slot A.tm 11=.one ((.o (.mp MM)))∧slot A.tm 12=.one (.i .i64 (i:Int))∧slot A.tm 13=.one ((.o (.ptr M 0 0 8)))∧slot A.tm 14=.one (.i .i64 (gi:Int))∧slot A.tm 36=.one ((.o (.sl id g off cs.length 8)))∧slot A.tm 37=.one (.i .i64 (cs.length:Int))∧slot A.tm 38=.one (.i .i64 (i:Int))∧slot A.tm 59=.one (.b b)∧A.nt=165∧A.dfr=[]→decide (x.kind=1∧gd.2.2≠[])=b→K6 A H8):=by
   clear t1 t6 t7 t11 t12 t13 t36 t37 t38 B0 C0 lu lu2 z2 z5 A;rintro b A ⟨t1,t6,t7,t11,t12,t13,t14,t36,t37,t38,t59,B0,C0⟩ hb;refine hK6.out _ _ ?_;clear hK6 K6;cases b with
   | true=>
    have hn:(([]:List (Cl×Int)),(52:Int))=r9:=by rw[←N2.out];exact (zB0 (of_decide_eq_true hb)).symm
    replace hn:Hd _:=hn;clear N2 go hb;refine zW tyF ?_;exact m4.out _ _ (badE.out 52 _ zL (by simp only[aj,C0];rfl) hn.out (by decide))
   | false=>
   have u6:=N2.out;rw[zB1 (of_decide_eq_false hb)] at u6;clear N2 hb;by_cases c4:kl.length=64
   ·have hn:(([]:List (Cl×Int)),(3:Int))=r9:=by rw[←u6];exact (zB0 c4).symm
    have e5:((kl.length:Int)==64)=true:=beq_iff_eq.2 (by omega);replace hn:Hd _:=hn;clear u6 go c4;refine zW tyF ?_;exact m4.out _ _ (badE.out 3 _ zL (by simp only[aj,C0];rfl) hn.out (by decide))
   rw[zB1 c4] at u6;have e5:((kl.length:Int)==64)=false:=zB5 (by omega);replace u6:Hd _:=u6;clear badE;refine zW tyF ?_;refine m1.out _ _ ?_;clear m2 m3 m4;refine zW tyF ?_;refine zH (qA tyF (qA (ixC I6) HA)) fun K7 hK7=>?_;refine WE.Rc (De H8 p q x.num hp8 hq8 hBn) fun w9 H9 g9 ⟨p',q',hw9,D2,Z2,ip,iq⟩=>?_;subst hw9;have rP:=(g9.get _ nP6 zB2).trans rP;have nP6:=zA0 nP6 g9.nx;have rM:=(g9.get _ nM6 zB2).trans rM;have nM6:=zA0 nM6 g9.nx;have rC:=(g9.get _ mC zB2).trans rC;have mC:=zA0 mC g9.nx;have g69:=g68.gr g9;have n89:=g9.nx;have V2:∀ id∈ju [.i .i64 (i:Int),.o (.str x.good),.o (.str gd.2.1),p',q'],H8.nx≤id∧¬(id<B∨id=M):=fun id hid=>by
    rw[tS] at hid;have h1:H8.nx≤id:=by
     rcases List.mem_append.1 hid with h|h
     ·exact ip id h
     exact iq id h
    exact ⟨h1,by omega⟩
   have W0:ClR H9 [.i .i64 (i:Int),.o (.str x.good),.o (.str gd.2.1),p',q'] ((i:Int),x.good,gd.2.1,x.num):=⟨p',q',rfl,D2,Z2⟩;obtain ⟨N4,cv',H10,U1,L8,D8⟩:=k_.out.Gc g9 (fun j h=>by omega) rfl W0 V2 (by rw[List.length_map];omega);have N3:(kl++[(((i:Int),x.good,gd.2.1,x.num),x.kind)]).map Prod.fst=kl.map Prod.fst++[((i:Int),x.good,gd.2.1,x.num)]:=by rw[List.map_append];rfl
   have I':(kl++[(((i:Int),x.good,gd.2.1,x.num),x.kind)]).length≤64:=by rw[List.length_append];show kl.length+1≤64;omega
   have rC10:=(D8.get _ mC fun h=>h (.inr rfl)).trans rC;have rM10:=(D8.get _ nM6 fun h=>h (.inl hMB)).trans rM;have rP10:=(D8.get _ nP6 fun h=>h (.inl (by omega))).trans rP;have mC10:=zA0 mC D8.nx;have nM10:=zA0 nM6 D8.nx;have nP10:=zA0 nP6 D8.nx;have g610:Gr H H10:=g69.then D8 fun q hq=>.inl (by omega);rw[←N3] at L8;clear k_ V2 W0 N3 hp8 hq8 D2 Z2 D8 g69 g68 g9 rC rM rP mC nM6 nP6 ip iq z4;replace L8:Hd _:=L8;refine zS (qA tyF iz) ?_;refine ⟨N4,?_⟩;refine zE tyF ?_;refine R1.gen (fun A12 H12=>Gr H H12∧M<H12.nx∧MM<H12.nx∧H12.get (N+1)=some (.arr [cv',rv] 37 0 0)∧H12.get MM=some (hY kvT ml)∧H12.get M=some (.arr [.i .i64 x.face,.i .i64 x.col,.i .i64 x.line,.i .i64 x.kind,p,q,.o (.str x.good),w] 69 0 0)∧Hd (dQ (fun j=>j<B∨j=M) H12 ((kl++[(((i:Int),x.good,gd.2.1,x.num),x.kind)]).map Prod.fst) (dn gs [] kl) (bu 0 kl) cv' rv ev)∧slot A12.tm 1=.one ((.o (.sl gid gg goff gs.length 3)))∧slot A12.tm 6=.one ((.o (.ptr (N+1) 0 0 2)))∧slot A12.tm 7=.one (ev)∧slot A12.tm 11=.one ((.o (.mp MM)))∧slot A12.tm 13=.one ((.o (.ptr M 0 0 8)))∧slot A12.tm 14=.one (.i .i64 (gi:Int))∧slot A12.tm 15=.one (.i .i64 (kl.length:Int))∧slot A12.tm 36=.one ((.o (.sl id g off cs.length 8)))∧slot A12.tm 37=.one (.i .i64 (cs.length:Int))∧slot A12.tm 38=.one (.i .i64 (i:Int))∧A12.nt=165∧A12.dfr=[])
    ⟨g610.mod _ (.inl (by omega)),mC10,nM10,al rfl,(aI (by omega)).trans rM10,(aI (by omega)).trans rC10,L8.out.fr (Y:=fun j=>j=N+1) ((Fr.refl _).mod _ (.inr rfl)) fun j h=>.inl (.inl (by omega)),zL⟩ ?_
   clear t1 t6 t7 t11 t12 t13 t14 t36 t37 t38 t59 B0 C0 A hK7 K7 U1 N4 L8 rC10 rM10 rP10 mC10 nM10 nP10 g610 Y_ X_ z3 ll8 lv8 hg8 n89;rintro A12 H12 ⟨g12,mC,nM,rP,rM,rC,Z4,t1,t6,t7,t11,t13,t14,t15,t36,t37,t38,B0,C0⟩;have nB:B≤H12.nx:=by omega
   have nP:N+1<H12.nx:=by omega
   have hbk:K2=K2:=rfl;have q7:=pn gs kl [] (((i:Int),x.good,gd.2.1,x.num),x.kind);have o9:=AX 0 kl (((i:Int),x.good,gd.2.1,x.num),x.kind);rw[List.nil_append] at q7;rw[Nat.zero_add] at o9;have hell:=sw 0 kl;have hrll:=lI gs [] kl;by_cases c5:x.kind=1
   ·have e3:(x.kind==1)=true:=beq_iff_eq.2 c5;have E0:iA gs kl (((i:Int),x.good,gd.2.1,x.num),x.kind)=[]:=zB0 c5;rw[E0,List.append_nil] at q7;rw[zB0 (show ((((i:Int),x.good,gd.2.1,x.num),x.kind):Cl×Int).2=1 from c5)] at o9;obtain ⟨hltE,ev',H13,happE,hbsE,Y9⟩:=Z4.out.XZ (Fr.refl _:Gr H12 H12) (fun j h=>by omega) (x:=(kl.length:Int)) (by omega);have rP13:=(Y9.get _ nP fun h=>h (.inl (by omega))).trans rP;have rM13:=(Y9.get _ nM fun h=>h (.inl hMB)).trans rM;have g13:Gr H H13:=g12.then Y9 fun q hq=>.inl (by omega);have nB13:B≤H13.nx:=by have:=Y9.nx;omega
    rw[←o9,←q7] at hbsE;have A_:=N3.out.entry (x:=(((i:Int),x.good,gd.2.1,x.num),x.kind)) c5;clear o9 q7 E0 Y9 c5 Z4 N3;replace hbsE:Hd _:=hbsE;replace A_:Hd _:=A_;refine zW tyF ?_;refine zG (qA tyF (qA iz happE)) fun K8 hK8=>?_;refine ⟨hltE,?_⟩;refine zK tyF ?_;exact (go.out _ ml cv' rv ev' _ _ zL I' g13 nB13 rP13 rM13 A_.out u6.out hbsE.out).1
   have e3:(x.kind==1)=false:=zB5 c5;have hru:iA gs kl (((i:Int),x.good,gd.2.1,x.num),x.kind)=[((kl.length:Int),bR gd (dq (x.good,x.kind) 0 0 kl) 0 kl)]:=by
    have e:iA gs kl (((i:Int),x.good,gd.2.1,x.num),x.kind)=[((kl.length:Int),bR (fP gs x.good) (dq (x.good,x.kind) 0 0 kl) 0 kl)]:=zB1 c5;rw[e,O7.out]
   have Z_:=th gd (dq (x.good,x.kind) 0 0 kl) [] kl;rw[List.nil_append] at Z_;have Z_:(bu 0 kl).filter (isP gd kl (dq (x.good,x.kind) 0 0 kl))=bR gd (dq (x.good,x.kind) 0 0 kl) 0 kl:=Z_;rw[hru,←Z_] at q7;rw[zB1 (show ¬((((i:Int),x.good,gd.2.1,x.num),x.kind):Cl×Int).2=1 from c5),List.append_nil] at o9;have hmt:=N3.out.total (((i:Int),x.good,gd.2.1,x.num),x.kind);have L0:=N3.out (x.good,x.kind) c5;have hem:=sj 0 kl;clear hru Z_ c5 N3;generalize dq (x.good,x.kind) 0 0 kl=fr at q7 L0;obtain ⟨hv,hb,hvb,Y6⟩:∃ (hv:Int) (hb:Bool),(if hb=true then hv else -1)=(fr:Int) - 1∧bw Tryz.prog H12 152 (.one (.i .i64 0)) (.one (.o (.mp MM))) (.agg [.o (.str x.good),.i .i64 x.kind]) true=.val (.tup [(false,[.i .i64 hv]),(false,[.b hb])]) H12:=by
    have h1:=HN Wo (z:=.one (.i .i64 0)) (k:=(x.good,x.kind)) (ok:=true) rM;rw[L0] at h1;by_cases h0:fr=0
    ·rw[zB0 h0] at h1;exact ⟨0,false,by rw[h0];rfl,h1⟩
    rw[zB1 h0] at h1;exact ⟨(fr:Int) - 1,true,rfl,h1⟩
   clear L0;replace q7:Hd _:=q7;replace o9:Hd _:=o9;replace hmt:Hd _:=hmt;replace hem:Hd _:=hem;replace hvb:Hd _:=hvb;refine zW (qA tyF (qA Y6 Bw)) ?_;refine R1.gX (fun B5 H5=>H12=H5∧slot B5.tm 1=.one ((.o (.sl gid gg goff gs.length 3)))∧slot B5.tm 6=.one ((.o (.ptr (N+1) 0 0 2)))∧slot B5.tm 7=.one (ev)∧slot B5.tm 11=.one ((.o (.mp MM)))∧slot B5.tm 13=.one ((.o (.ptr M 0 0 8)))∧slot B5.tm 14=.one (.i .i64 (gi:Int))∧slot B5.tm 15=.one (.i .i64 (kl.length:Int))∧slot B5.tm 16=.one ((.i .i64 ((fr:Int) - 1)))∧slot B5.tm 36=.one ((.o (.sl id g off cs.length 8)))∧slot B5.tm 37=.one (.i .i64 (cs.length:Int))∧slot B5.tm 38=.one (.i .i64 (i:Int))∧B5.nt=165∧B5.dfr=[]) (fun K8 n1 n2 n3=>?_) ?_
   ·cases hb with
    | true=>
     have hvb:hv=(fr:Int) - 1:=hvb.out;subst hvb;refine zW tyF ?_;refine n1.out _ _ ?_;exact ⟨rfl,zL⟩
    | false=>
     have hvb2:Hd (-1=(fr:Int) - 1):=hvb.out;clear hvb;refine zW tyF ?_;refine n1.out _ _ ?_;rw[←hvb2.out];exact ⟨rfl,zL⟩
   clear t1 t6 t7 t11 t13 t14 t15 t36 t37 t38 B0 C0 A12 Y6 hvb;rintro A12 H5 ⟨rfl,t1,t6,t7,t11,t13,t14,t15,t16,t36,t37,t38,B0,C0⟩;refine zR tyF ?_;refine R1.gen (fun A13 H13=>Gr H12 H13∧H12.nx<H13.nx∧H13.get H12.nx=some (.arr [.i .i64 (kl.length:Int),.o .nilS] 86 0 0)∧slot A13.tm 1=.one ((.o (.sl gid gg goff gs.length 3)))∧slot A13.tm 6=.one ((.o (.ptr (N+1) 0 0 2)))∧slot A13.tm 7=.one (ev)∧slot A13.tm 11=.one ((.o (.mp MM)))∧slot A13.tm 13=.one ((.o (.ptr M 0 0 8)))∧slot A13.tm 14=.one (.i .i64 (gi:Int))∧slot A13.tm 15=.one (.i .i64 (kl.length:Int))∧slot A13.tm 16=.one ((.i .i64 ((fr:Int) - 1)))∧slot A13.tm 18=.one ((.o (.ptr H12.nx 0 0 2)))∧slot A13.tm 36=.one ((.o (.sl id g off cs.length 8)))∧slot A13.tm 37=.one (.i .i64 (cs.length:Int))∧slot A13.tm 38=.one (.i .i64 (i:Int))∧A13.nt=165∧A13.dfr=[])
    ⟨((Fr.refl _).new _).mod _ (.inl (zA1 _)),zA6 _,al rfl,zL⟩ ?_
   clear t1 t6 t7 t11 t13 t14 t15 t16 t36 t37 t38 B0 C0 A12;rintro A13 H13 ⟨g13,mR,rR,t1,t6,t7,t11,t13,t14,t15,t16,t18,t36,t37,t38,B0,C0⟩;obtain ⟨R,hR⟩:∃ R,R=H12.nx:=⟨_,rfl⟩;have hRl:H12.nx≤R:=by omega
   rw[←hR] at mR rR t18;clear hR;have hc12:=Z4.out.c;have he12:=Z4.out.e;have hev13:=he12.gr g13;have le:=hev13.len;have le2:=hev13.lt;refine zW tyF ?_;refine R1.cy fun K9 w1 w2 w3 w4=>?_;refine R1.loop (fun z A H9=>∃ (k:Nat) (v5:AC) (r5:Option Nat),z=(bu 0 kl).length - k∧k≤(bu 0 kl).length∧Gr H12 H9∧R<H9.nx∧H9.get R=some (.arr [.i .i64 (kl.length:Int),v5] 86 0 0)∧dm H9 v5 3 1 (((bu 0 kl).take k).filter (isP gd kl fr)).length ((((bu 0 kl).take k).filter (isP gd kl fr)).flatMap tK) r5∧(∀ q,r5=some q→R<q) ∧
    slot A.tm 1=.one ((.o (.sl gid gg goff gs.length 3)))∧slot A.tm 6=.one ((.o (.ptr (N+1) 0 0 2)))∧slot A.tm 7=.one (ev)∧slot A.tm 11=.one ((.o (.mp MM)))∧slot A.tm 13=.one ((.o (.ptr M 0 0 8)))∧slot A.tm 14=.one (.i .i64 (gi:Int))∧slot A.tm 15=.one (.i .i64 (kl.length:Int))∧slot A.tm 16=.one ((.i .i64 ((fr:Int) - 1)))∧slot A.tm 18=.one ((.o (.ptr R 0 0 2)))∧slot A.tm 36=.one ((.o (.sl id g off cs.length 8)))∧slot A.tm 37=.one (.i .i64 (cs.length:Int))∧slot A.tm 38=.one (.i .i64 (i:Int))∧slot A.tm 120=.one (ev)∧slot A.tm 121=.one (.i .i64 ((bu 0 kl).length:Int))∧slot A.tm 122=.one (.i .i64 (k:Int))∧A.nt=165∧A.dfr=[]) ?_ (bu 0 kl).length
    ⟨0,.o .nilS,none,rfl,Nat.zero_le _,g13,mR,rR,.inl ⟨rfl,rfl,rfl,rfl⟩,fun q hq=>(by cases hq),zL⟩
   clear t1 t6 t7 t11 t13 t14 t15 t16 t18 t36 t37 t38 B0 C0 A13 w3 g13 mR rR le le2 hev13 H13;rintro z A H9 ⟨k,v5,r5,rfl,hk,g9,mR,rR,P1,I1,t1,t6,t7,t11,t13,t14,t15,t16,t18,t36,t37,t38,t120,t121,t122,B0,C0⟩;obtain ⟨zi,w_,E6⟩:=xm;replace w_:Hd _:=w_;replace E6:Hd _:=E6;refine zW tyF ?_;refine zI tyF (fun hc=>?_) (fun hc=>?_)
   ·have hkl2:k<(bu 0 kl).length:=by omega
    obtain ⟨n0,en⟩:∃ n0,(bu 0 kl)[k]?=some n0:=⟨_,zB4 hkl2⟩;obtain ⟨m,y,V',ey⟩:=hem.out n0 (List.mem_of_getElem? en);rw[Nat.zero_add] at V';subst V';have hmkl:=(List.getElem?_eq_some_iff.1 ey).1;have hm2:m<kl.length+1:=by omega
    have V0:=zC0 k (by omega);obtain ⟨eid,eg,eoff,ecells,hev',heid,hegr,heat⟩:=(he12.gr g9).open (by omega);subst hev';obtain ⟨y1,y2⟩:=heat k _ en;rw[Nat.mul_one] at y1 y2;obtain ⟨cid,cg,coff,ccells,hcv',hcid,hcgr,J6⟩:=(hc12.gr g9).open (by rw[List.length_map,List.length_append];exact Nat.succ_pos _);have hcln:((kl++[(((i:Int),x.good,gd.2.1,x.num),x.kind)]).map Prod.fst).length=kl.length+1:=by rw[List.length_map,List.length_append];rfl
    rw[hcln] at hcv';subst hcv';obtain ⟨p5,q5,hy⟩:=J6 m y.1 (by rw[List.getElem?_map,List.getElem?_append_left hmkl,ey];rfl);have y3:=hy.f2;have y4:=hy.le2;have p8:((bu 0 kl).take (k+1)).filter (isP gd kl fr)=((bu 0 kl).take k).filter (isP gd kl fr)++(if (decide ((fr:Int) - 1<(m:Int))&&dD gd y.1.2.1)=true then [(m:Int)] else []):=by
     have hp:isP gd kl fr (m:Int)=(decide ((fr:Int) - 1<(m:Int))&&dD gd y.1.2.1):=by
      unfold isP;rw[Int.toNat_natCast,ey];rfl
     rw[kV en,List.filter_append,List.filter_cons,hp];rfl
    have B7:(((bu 0 kl).take k).filter (isP gd kl fr)).length≤64:=by
     have h1:=List.length_filter_le (isP gd kl fr) ((bu 0 kl).take k);rw[List.length_take] at h1;omega
    have rP9:=(g9.get _ nP zB2).trans rP;have nP9:=zA0 nP g9.nx;have hgid9:gid<H9.nx:=zA0 J' (g12.gr g9).nx;have hggr9:rowOf (H9.get gid) gg=some gcells:=by rw[(g12.gr g9).get _ J' zB2];exact L'.out
    have hgu9:=hguH.out.gr (g12.gr g9);clear heat J6 hy en ey hcln;replace p8:Hd _:=p8;have Q3:k+1≤(bu 0 kl).length:=by omega
    refine zW tyF ?_;refine R1.cy fun K8 u1 u2 u3 u4=>?_;refine zR (qA tyF (qA (ixC hkl2) Nat.mul_one)) ?_;by_cases d1:(fr:Int) - 1<(m:Int)
    ·refine zG (qA tyF (qA (ixC I6) (qA (ixC hm2) AY))) fun K10 hK10=>?_;refine WE.con (Om H9 gd gu y.1.2.1 hgu9 hBg.out) fun w10 H10 g10 B9=>?_;subst B9;have rR10:=(g10.get _ mR zB2).trans rR;have mR10:=zA0 mR g10.nx;have P3:=P1.fr g10 fun _ _ h=>h;have g910:=g9.gr g10;have R5:=p8.out;clear p8 rR P1 hgu9 hggr9 hgid9 rP9 nP9 hcid hcgr heid hegr y1 y2 y3 y4;cases k8:dD gd y.1.2.1 with
     | true=>
      rw[decide_eq_true d1,k8] at R5;have Y7:((bu 0 kl).take (k+1)).filter (isP gd kl fr)=((bu 0 kl).take k).filter (isP gd kl fr)++[(m:Int)]:=R5;obtain ⟨hlt6,v6,H11,r6,happ6,p_,G7,hr6⟩:=gZ fv sA w_.out E6.out (by decide) P3 [.i .i64 (m:Int)] rfl (by omega);have rR11:=(G7.get _ mR10 fun e=>by have:=I1 _ e;omega).trans rR10;have mR11:=zA0 mR10 G7.nx;have g11:Gr H12 (H11.mod R (.arr [.i .i64 (kl.length:Int),v6] 86 0 0)):=(g910.then G7 fun q hq=>.inl (by have:=I1 q hq;omega)).mod _ (.inl hRl);have hR6:R<r6:=by
       rcases hr6 with e|e
       ·exact I1 _ e
       omega
      have E9:=p_.fr (H':=H11.mod R (.arr [.i .i64 (kl.length:Int),v6] 86 0 0)) (X:=fun i=>i=R) ((Fr.refl _).mod _ (.inr rfl)) fun i hi h=>by cases hi;omega
      have hpe:dm (H11.mod R (.arr [.i .i64 (kl.length:Int),v6] 86 0 0)) v6 3 1 (((bu 0 kl).take (k+1)).filter (isP gd kl fr)).length ((((bu 0 kl).take (k+1)).filter (isP gd kl fr)).flatMap tK) (some r6):=by
       rw[Y7,List.length_append,List.flatMap_append];exact E9
      have mR12:R<(H11.mod R (.arr [.i .i64 (kl.length:Int),v6] 86 0 0)).nx:=mR11;clear E9 p_ R5 Y7 hr6 G7 P3 g910 d1 g10 k8;replace hpe:Hd _:=hpe;replace g11:Hd _:=g11;refine zK tyF ?_;refine zG (qA tyF (qA iz happ6)) fun K11 hK11=>?_;refine ⟨hlt6,?_⟩;refine zK tyF ?_;refine u1.out _ _ ?_;refine zW tyF ?_;exact ⟨(bu 0 kl).length - (k+1),by omega,k+1,v6,some r6,rfl,Q3,g11.out,mR12,al rfl,hpe.out,fun q hq=>by cases hq;exact hR6,zL⟩
     | false=>
      rw[k8,Bool.and_false,zB1 (by decide),List.append_nil] at R5;rw[←R5] at P3;clear R5 d1 k8 g10;refine zK tyF ?_;refine u1.out _ _ ?_;refine zW tyF ?_;exact ⟨(bu 0 kl).length - (k+1),by omega,k+1,v5,r5,rfl,Q3,g910,mR10,rR10,P3,I1,zL⟩
    have R5:=p8.out;rw[decide_eq_false d1,Bool.false_and,zB1 (by decide),List.append_nil] at R5;rw[←R5] at P1;clear R5 p8;refine zW (qA tyF (qA (ixC I6) (qA (ixC hm2) AY))) ?_;refine u1.out _ _ ?_;refine zW tyF ?_;exact ⟨(bu 0 kl).length - (k+1),by omega,k+1,v5,r5,rfl,Q3,g9,mR,rR,P1,I1,zL⟩
   have hke:k=(bu 0 kl).length:=by omega
   rw[hke,List.take_length] at P1;have F6:=dm.ids P1;have hsl:SlI H9 v5 ((bu 0 kl).filter (isP gd kl fr)):=P1.slc;obtain ⟨hltR,rv',H14,happR,hbsR,hfR⟩:=Z4.out.YI g9 (fun j h=>by have:=g9.nx;omega) (c0:=[.i .i64 (kl.length:Int),v5]) (x:=((kl.length:Int),(bu 0 kl).filter (isP gd kl fr))) rfl ⟨v5,rfl,hsl⟩ (fun id hid=>by
    rw[tU] at hid;have h1:=I1 id (F6 id hid);omega) (by omega)
   have rP9:=(g9.get _ nP zB2).trans rP;have nP9:=zA0 nP g9.nx;have rM9:=(g9.get _ nM zB2).trans rM;have nM9:=zA0 nM g9.nx;have rC9:=(g9.get _ mC zB2).trans rC;have mC9:=zA0 mC g9.nx;have rM14:=(hfR.get _ nM9 fun h=>h (.inl hMB)).trans rM9;have rC14:=(hfR.get _ mC9 fun h=>h (.inr rfl)).trans rC9;have rP14:=(hfR.get _ nP9 fun h=>h (.inl (by omega))).trans rP9;have nP14:=zA0 nP9 hfR.nx;have nM14:=zA0 nM9 hfR.nx;have mC14:=zA0 mC9 hfR.nx;have nB14:B≤H14.nx:=by have:=hfR.nx;omega
   have g14:Gr H H14:=(g12.gr g9).then hfR fun q hq=>.inl (by omega);rw[←q7.out,←o9.out] at hbsR;clear P1 F6 hsl hfR Z4 q7 o9 hem hc12 he12 rM rC hell hrll;replace hbsR:Hd _:=hbsR;refine zW tyF ?_;refine w2.out _ _ ?_;refine zG (qA tyF (qA iz happR)) fun K10 hK10=>?_;refine ⟨hltR,?_⟩;refine zE tyF ?_;have rM15:(H14.mod (N+1) (.arr [cv',rv'] 37 0 0)).get MM=some (hY kvT ml):=(aI (by omega)).trans rM14;have rC15:=(aI (o:=.arr [cv',rv'] 37 0 0) (show M≠N+1 by omega)).trans rC14;have hup:=Iz Wo (k:=(x.good,x.kind)) (x:=.i .i64 (kl.length:Int)) rM15;have nM15:MM<(H14.mod (N+1) (.arr [cv',rv'] 37 0 0)).nx:=nM14;have rP16:((H14.mod (N+1) (.arr [cv',rv'] 37 0 0)).mod MM (hY kvT (hT ml (x.good,x.kind) (.i .i64 (kl.length:Int))))).get (N+1)=some (.arr [cv',rv'] 37 0 0):=(aI (by omega)).trans (al rfl);have g16:Gr H ((H14.mod (N+1) (.arr [cv',rv'] 37 0 0)).mod MM (hY kvT (hT ml (x.good,x.kind) (.i .i64 (kl.length:Int))))):=(g14.mod _ (.inl (by omega))).mod _ (.inl (by omega));have hbs16:=(hbsR.out.fr (Y:=fun j=>j=N+1) (H':=H14.mod (N+1) (.arr [cv',rv'] 37 0 0)) ((Fr.refl _).mod _ (.inr rfl)) fun j h=>.inl (.inl (by omega))).fr (Y:=fun j=>j=MM) (H':=(H14.mod (N+1) (.arr [cv',rv'] 37 0 0)).mod MM (hY kvT (hT ml (x.good,x.kind) (.i .i64 (kl.length:Int))))) ((Fr.refl _).mod _ (.inr rfl)) fun j h=>.inl (.inl (by omega));clear hbsR;replace hbs16:Hd _:=hbs16;replace g16:Hd _:=g16;replace rP16:Hd _:=rP16;refine zW (qA tyF hup) ?_;exact (go.out _ _ cv' rv' ev _ _ zL I' g16.out nB14 rP16.out (al rfl) hmt.out u6.out hbs16.out).2
  clear N2 go badE;by_cases c5:x.kind=1
  ·have e3:(x.kind==1)=true:=beq_iff_eq.2 c5;by_cases c6:gd.2.2=[]
   ·have e4:¬(0:Int)<(gd.2.2.length:Int):=by rw[c6];decide
    have e6:decide (x.kind=1∧gd.2.2≠[])=false:=decide_eq_false fun h=>h.2 c6;replace e6:Hd _:=e6;clear c5 c6;refine zS (qA tyF (ixC I6)) ?_;exact key.out _ _ zL e6.out
   have e4:(0:Int)<(gd.2.2.length:Int):=by
    have:gd.2.2.length≠0:=fun h=>c6 (List.eq_nil_of_length_eq_zero h);omega
   have e6:decide (x.kind=1∧gd.2.2≠[])=true:=decide_eq_true ⟨c5,c6⟩;replace e6:Hd _:=e6;clear c5 c6;refine zS (qA tyF (ixC I6)) ?_;exact key.out _ _ zL e6.out
  have e3:(x.kind==1)=false:=zB5 c5;have e6:decide (x.kind=1∧gd.2.2≠[])=false:=decide_eq_false fun h=>c5 h.1;replace e6:Hd _:=e6;clear c5;refine zS (qA tyF (ixC I6)) ?_;exact key.out _ _ zL e6.out
 have C2:i=cs.length:=by omega
 subst C2;have hn:=hr.out;rw[List.drop_length,cA] at hn;have he:e0=0:=by rw[Z9.out,←hn]
 have hk9:=Y3.out he;rw[←hn] at hk9;have hk9:fQ o gs (nm,cs)=kl:=hk9;have hbs9:=Z4.out.fr (Y:=fun i=>i=N+1) (H':=H6.mod (N+1) (.arr [cv,rv] 37 0 0)) ((Fr.refl _).mod _ (.inr rfl)) fun i h=>.inl (by omega);have b1:dQ (fun j=>j<H.nx) (H6.mod (N+1) (.arr [cv,rv] 37 0 0)) p0.1 p0.2 q0 cv rv ev:=by
  rw[←S6.out,←V9.out];unfold js;rw[hk9];exact hbs9.less fun j h=>.inl (by omega)
 have g9:Gr H (H6.mod (N+1) (.arr [cv,rv] 37 0 0)):=g6.mod _ (.inl (by omega));have hev:ltV (.one ev) H6.nx:=Z4.out.e.lt;replace b1:Hd _:=b1;clear Z4 hbs9 hk9 hn hr bad Z9 Y3 hv6;subst he;refine zW tyF ?_;refine k2.out _ _ ?_;refine zW tyF ?_;exact fin _ _ _ _ _ (N+1) (by simp only[aa,Nat.reduceEqDiff,reduceIte,t6]) (by simp only[aa,Nat.reduceEqDiff,reduceIte,t7]) qp (by simp only[aj,C0];rfl) (al rfl) g9 b1.out
theorem RL:ak Tryz.prog 9=true:=by kernel_rfl
theorem JS (H:Hp) (k gv v:AC) (o:Option (List Lad)) (gs:List Gd) (nm:List UInt8) (cs:List Cs) (hk:cU H k o) (G3:∀ ls,o=some ls→∀ x∈ls,x.2.length≤1000000) (hg:SlG H gv gs) (hv:dI H v cs) (hB:TbB cs) (hO:∀ x∈gs,x.2.2.length≤4611686018427387904):
  Con E2 9 [.one k,.one gv,.agg [.o (.str nm),v]] H (fun _=>False) fun r H'=>∃ a b,r=.tup [(true,[a,b]),(false,[.i .i64 (eY o gs (nm,cs))])]∧jb H' a (js o gs (nm,cs)).1∧jt H' b (js o gs (nm,cs)).2:=by
 refine Con.of rfl fun lg=>?_;have hk:cU ⟨H.t,H.nx,lg⟩ k o:=cU.same (H:=H) rfl rfl hk;have hg:SlG ⟨H.t,H.nx,lg⟩ gv gs:=hg;have hv:dI ⟨H.t,H.nx,lg⟩ v cs:=hv;generalize (⟨H.t,H.nx,lg⟩:Hp)=H at hk hg hv ⊢;refine C1.body (E:=E2) (nt:=21) (res:=[.cell 6 37,.tmp 7]) Tryz.func9 rfl rfl rfl rfl rfl fun tm A0=>?_;have h0:=A0 0 _ rfl;have h1:=A0 1 _ rfl;have h2:=A0 2 _ rfl;clear A0;generalize S6:js o gs (nm,cs)=p0;generalize M1:eY o gs (nm,cs)=e0;generalize V9:bu 0 (fQ o gs (nm,cs))=q0;have fin:∀ (a b:AC) (A:ab) (H9:Hp) (M:Nat),slot A.tm 6=.one (.o (.ptr M 0 0 2))→slot A.tm 7=.one (.i .i64 e0)→closeAll H9 A.dfr=some H9→H9.get M=some (.arr [a,b] 37 0 0)→Gr H H9→jb H9 a p0.1→jt H9 b p0.2 →
   ∃ w H4,an E2 [.cell 6 37,.tmp 7] (.ret,A,H9)=.ok [(w,H4)]∧Gr H H4∧∀ lg:List Nat,∃ a b,w=.tup [(true,[a,b]),(false,[.i .i64 e0])]∧jb ⟨H4.t,H4.nx,lg⟩ a p0.1∧jt ⟨H4.t,H4.nx,lg⟩ b p0.2:=fun a b A H9 M s6 s7 hd r1 P0 h1 h2=>
  ⟨_,H9,cE (.inr rfl) hd (uz jZ s6 (by rw[r1];exact TS) (zA1 _) rfl (Cd s7 Jn)),P0,fun lg=>⟨a,b,rfl,h1,h2⟩⟩
 have lv:=hv.lt;replace S6:Hd _:=S6;replace M1:Hd _:=M1;replace V9:Hd _:=V9;refine zG tyF fun K hK=>?_;refine hK.out _ _ ?_;refine R1.gen (fun A1 H1=>Gr H H1∧H.nx+1<H1.nx∧H1.get H.nx=some (.arr [.o (.str nm),v] 26 0 0)∧H1.get (H.nx+1)=some (.arr [.o .nilS,.o .nilS] 37 0 0)∧slot A1.tm 0=.one (k)∧slot A1.tm 1=.one (gv)∧slot A1.tm 5=.one ((.o (.ptr H.nx 0 0 2)))∧slot A1.tm 6=.one ((.o (.ptr (H.nx+1) 0 0 2)))∧A1.nt=21∧A1.dfr=[])
  ⟨((Fr.refl _).new _).new _,by show H.nx+1<H.nx+1+1;omega,by rw[aW (by show H.nx<H.nx+1;omega)];exact aB rfl,aB rfl,zL⟩ ?_
 clear h0 h1 h2 tm hK K lv;rintro A1 H1 ⟨g1,n1,r0,r1,t0,t1,t5,t6,B0,C0⟩;obtain ⟨N,hN⟩:∃ N,N=H.nx:=⟨_,rfl⟩;rw[←hN] at n1 r0 r1 t5 t6;have hNl:H.nx≤N:=Nat.le_of_eq hN.symm;replace hN:Hd _:=hN;have n0:N<H1.nx:=by omega
 have Q3:=hk.gr g1;have M4:=hg.gr g1;have B2:=hv.gr g1;refine zG (qA tyF Eu) fun K hK=>?_;refine WE.con (AL H1 k gv v o gs nm cs Q3 G3 M4 B2 hB hO) fun w2 H2 g2 ⟨a,b,ev,W1,Z4⟩=>?_;rw[M1.out] at W1;rw[S6.out,V9.out] at Z4;subst W1;have r0:=(g2.get _ n0 zB2).trans r0;have n0:=zA0 n0 g2.nx;have r1:=(g2.get _ n1 zB2).trans r1;have n1:=zA0 n1 g2.nx;have g2:=g1.gr g2;have hbs3:=Z4.fr (Y:=fun j=>j=N+1) (H':=((H2.new (.arr [.o .nilS,.o .nilS] 37 0 0)).mod H2.nx (.arr [a,b] 37 0 0)).mod (N+1) (.arr [a,b] 37 0 0)) ((((Fr.refl H2).new _).mod _ (.inl (zA1 _))).mod _ (.inr rfl)) fun j h=>.inl (by omega);have la:=Z4.c.lt;have lb:=Z4.r.lt;have le:=Z4.e.lt;have g9:Gr H (((H2.new (.arr [.o .nilS,.o .nilS] 37 0 0)).mod H2.nx (.arr [a,b] 37 0 0)).mod (N+1) (.arr [a,b] 37 0 0)):=((g2.new _).mod _ (.inl (by have:=g2.nx;omega))).mod _ (.inl (by omega));clear Z4;replace hbs3:Hd _:=hbs3;replace g9:Hd _:=g9;refine zK tyF ?_;exact fin _ _ _ _ (N+1) (by simp only[aa,Nat.reduceEqDiff,reduceIte,t6]) qp (by simp only[aj,C0];rfl) (al rfl) g9.out hbs3.out.c hbs3.out.r
def Cs.amt (c:Cs) (y:Nm):Cs:=⟨c.face,c.col,c.line,c.kind,y,c.good,c.ws⟩
def sg (cs:List Cs) (i:Nat) (y:Nm):List Cs:=match cs[i]? with
 | some c=>cs.set i (c.amt y)
 | none=>cs
def okV (o:Option (List Lad)) (x:Cl) (v:Int):Bool:=decide ((eu (dW o x.2.2.1).1 (dW o x.2.2.1).2 x.2.2.2).2=0)&&decide ((eu (dW o x.2.2.1).1 (dW o x.2.2.1).2 x.2.2.2).1=v)
theorem Xy (cs:List Cs) (i:Nat) (y:Nm):(sg cs i y).length=cs.length:=by
 unfold sg;split
 ·rw[List.length_set]
 rfl
theorem XW {cs:List Cs} {i:Nat} {c:Cs} (h:cs[i]?=some c) (y:Nm):sg cs i y=cs.set i (c.amt y):=by
 unfold sg;rw[h]
theorem Al.at {α β:Type} {R:β→α→Prop}:∀ (i:Nat) {cs:List β} {xs:List α} {x:α},Al R cs xs→xs[i]?=some x→∃ c,cs[i]?=some c∧R c x
 | _,[],[],_,_,h=>by cases h
 | 0,c::_,_::_,_,h,hx=>by cases hx;exact ⟨c,rfl,h.1⟩
 | i+1,_::_,_::_,_,h,hx=>Al.at i h.2 (by simpa using hx)
 | _,[],_::_,_,h,_=>h.elim
 | _,_::_,[],_,h,_=>h.elim
theorem Mp (ls:List Lad):∀ (acc gs:List Gd),goG ls acc gs=0→∀ g∈gs,fT (some ls) g.2.1=0
 | _,[],_=>fun _ h=>absurd h List.not_mem_nil
 | acc,x::gs,h=>fun g hg=>by
  unfold goG at h;split at h
  ·cases h
  split at h
  ·cases h
  split at h
  ·cases h
  rename_i c3
  split at h
  ·cases h
  rcases List.mem_cons.1 hg with rfl|hg
  ·exact Classical.byContradiction c3
  exact Mp ls (acc++[x]) gs h g hg
theorem QM {o:Option (List Lad)} {gs:List Gd} (h:jS o gs=0):∀ g∈gs,fT o g.2.1=0:=by
 cases o with
 | none=>cases h
 | some ls=>
  have h':(if (32:Int)<gs.length then 3 else goG ls [] gs)=0:=h;by_cases c:(32:Int)<gs.length
  ·rw[zB0 c] at h';cases h'
  rw[zB1 c] at h';exact Mp ls [] gs h'
theorem pA {o:Option (List Lad)} {gs:List Gd} {t:Tb} (h:eY o gs t=0):jS o gs=0∧kC t=0∧(cA gs 0 t.2 []).2=0:=by
 unfold eY at h;by_cases h1:jS o gs=0
 ·rw[zB1 (fun hh=>hh h1)] at h;by_cases h2:kC t=0
  ·rw[zB1 (fun hh=>hh h2)] at h;exact ⟨h1,h2,h⟩
  rw[zB0 h2] at h;exact absurd h h2
 rw[zB0 h1] at h;exact absurd h h1
theorem nZ {o:Option (List Lad)} {gs:List Gd} {t:Tb} (h:eY o gs t=0):(∀ x∈fQ o gs t,Xp gs t.2 x∧fT o x.1.2.2.1=0)∧(fQ o gs t).length≤64:=by
 obtain ⟨h1,h2,h3⟩:=pA h;have hk:fQ o gs t=(cA gs 0 t.2 []).1:=zB0 h;rw[hk];obtain ⟨a,b⟩:=oe gs t.2 0 t.2 [] rfl (fun _ h=>absurd h List.not_mem_nil) (Nat.zero_le _);refine ⟨fun x hx=>⟨a x hx,?_⟩,b⟩;obtain ⟨j,c,_,_,_,_,hi,hl,_⟩:=a x hx;obtain ⟨gi,_,V3,_⟩:=jD hi;rw[hl];exact QM h1 _ (List.mem_of_getElem? V3)
theorem JE {o:Option (List Lad)} {gs:List Gd} {t:Tb} (h:eY o gs t=0):(∀ x∈(js o gs t).1,(∃ j:Nat,x.1=(j:Int)∧j<t.2.length)∧fT o x.2.2.1=0∧∃ c∈t.2,x.2.2.2=c.num)∧(js o gs t).1.length≤64:=by
 obtain ⟨a,b⟩:=nZ h;refine ⟨fun x hx=>?_,by show ((fQ o gs t).map Prod.fst).length≤64;rw[List.length_map];exact b⟩;obtain ⟨y,hy,rfl⟩:=List.mem_map.1 hx;obtain ⟨⟨j,c,h1,h2,_,_,_,_,h3,_⟩,h4⟩:=a y hy;exact ⟨⟨j,h1,(List.getElem?_eq_some_iff.1 h2).1⟩,h4,c,List.mem_of_getElem? h2,h3⟩
theorem OM {gs:List Gd} {t:Tb}:eY none gs t=1:=rfl
theorem IH:ak Tryz.prog 8=true:=by kernel_rfl
theorem Cb:ak Tryz.prog 91=true:=by kernel_rfl
theorem Ii:ak Tryz.prog 43=true:=by kernel_rfl
theorem Ps:ak Tryz.prog 15=true:=by kernel_rfl
theorem xP (H:Hp) (v w:AC) (l:List Pr) (hv:SlP H v l) (hw:SlP H w l) (hL:l.length≤4611686018427387904):
  Con E2 91 [.one v,.one w] H (fun _=>False) fun r _=>r=.one (.b true):=by
 refine Con.of rfl fun lg=>?_;have hv:SlP ⟨H.t,H.nx,lg⟩ v l:=hv;have hw:SlP ⟨H.t,H.nx,lg⟩ w l:=hw;generalize (⟨H.t,H.nx,lg⟩:Hp)=H at hv hw ⊢;refine C1.body (E:=E2) (nt:=26) (res:=[.tmp 4]) Tryz.func91 rfl rfl rfl rfl rfl fun tm A0=>?_;have h0:=A0 0 _ rfl;have h1:=A0 1 _ rfl;clear A0;have l1:=hv.len;have l2:=hw.len;have l3:=hv.lt;have l4:=hw.lt;have Z0:((l.length:Int)==(l.length:Int))=true:=beq_self_eq_true _;refine zW tyF ?_;refine R1.cy fun K k1 k2 k3 k4=>?_;refine R1.loop (fun k A H2=>∃ i:Nat,k=l.length - i∧i≤l.length∧Gr H H2∧slot A.tm 0=.one (v)∧slot A.tm 1=.one (w)∧slot A.tm 5=.one (.i .i64 (i:Int))∧A.nt=26∧A.dfr=[]) ?_ l.length ⟨0,rfl,Nat.zero_le _,Fr.refl _,zL⟩;clear h0 h1 tm l1 l2 l3 l4 k3;rintro k A H2 ⟨i,rfl,hi,g2,t0,t1,t5,B0,C0⟩;have X1:=hv.gr g2;have G_:=hw.gr g2;have l1:=X1.len;have l3:=X1.lt;refine zW tyF ?_;refine zI tyF (fun hc=>?_) (fun hc=>?_)
 ·have D0:i<l.length:=by omega
  have ex:=zB4 D0;have Q0:=zC1 D0;have B1:=zC2 D0;have G0:l[i]∈l:=List.getElem_mem D0;generalize l[i]=x at ex Q0 B1 G0;have V0:=zC0 i (by omega);clear Q0 B1 G0 l1 l3;obtain ⟨id,g,off,cells,rfl,hid,P0,L0⟩:=X1.open (by omega);obtain ⟨id',g',off',cells',rfl,F1,I2,X2⟩:=G_.open (by omega);have K0:=L0 i x ex;have L2:=X2 i x ex;have y1:=K0.all;have y2:=K0.le;have y3:=L2.all;have y4:=L2.le;rw[eK] at y1 y3;obtain ⟨x1,x2⟩:=x;have c1:(x1==x1)=true:=beq_self_eq_true _;have c2:(x2==x2)=true:=beq_self_eq_true _;clear L0 X2 K0 L2 ex Z0;refine zW tyF ?_;refine R1.cy fun K2 q1 q2 q3 q4=>?_;repeat refine R1.aE ?_
  (first|refine R1.Sq (by kernel_rfl) fun K hK=>?_|refine R1.TJ (by kernel_rfl) fun K hK=>?_)
  simp only[qB,aC,Nat.reduceLT,ad,t0,t1,t5,B0,rj,Dn,dM D0,hid,P0,F1,I2,y1,y2,y3,y4,sn VW,beq_self_eq_true,Bool.and_self];refine hK _ _ ?_;clear hK K;refine qY ?_;refine zW tyF ?_;refine q1.out _ _ ?_;refine zW tyF ?_;exact ⟨l.length - (i+1),by omega,i+1,rfl,D0,g2,zL⟩
 refine zW tyF ?_;refine k2.out _ _ ?_;refine zW tyF ?_;exact ⟨_,_,ah (.b true) (.inr rfl) qe qp,g2,fun _=>rfl⟩
theorem Cp (H:Hp) (c:Cs) (p q w p' q' w':AC) (hp:aM H p c.num.1) (hq:aM H q c.num.2) (hw:SlP H w c.ws) (D2:aM H p' c.num.1) (Z2:aM H q' c.num.2) (S1:SlP H w' c.ws) (D6:c.num.1.length≤4611686018427387904) (V8:c.num.2.length≤4611686018427387904) (h3':c.ws.length≤4611686018427387904):
  Con E2 43 [.agg (csC c p q w),.agg (csC c p' q' w')] H (fun _=>False) fun r _=>r=.one (.b true):=by
 rw[Ma,Ma];refine Con.of rfl fun lg=>?_;have hp:aM ⟨H.t,H.nx,lg⟩ p c.num.1:=hp;have hq:aM ⟨H.t,H.nx,lg⟩ q c.num.2:=hq;have hw:SlP ⟨H.t,H.nx,lg⟩ w c.ws:=hw;have D2:aM ⟨H.t,H.nx,lg⟩ p' c.num.1:=D2;have Z2:aM ⟨H.t,H.nx,lg⟩ q' c.num.2:=Z2;have S1:SlP ⟨H.t,H.nx,lg⟩ w' c.ws:=S1;generalize (⟨H.t,H.nx,lg⟩:Hp)=H at hp hq hw D2 Z2 S1 ⊢;refine C1.body (E:=E2) (nt:=52) (res:=[.tmp 4]) Tryz.func43 rfl rfl rfl rfl rfl fun tm A0=>?_;have h0:=A0 0 _ rfl;have h1:=A0 1 _ rfl;clear A0;obtain ⟨fc,cl,ln,kd,nu,gd,ws⟩:=c;have lp:=hp.lt;have lq:=hq.lt;have lw:=hw.lt;have lp':=D2.lt;have lq':=Z2.lt;have lw':=S1.lt;refine zG tyF fun K hK=>?_;refine hK.out _ _ ?_;refine R1.gen (fun A1 H1=>Gr H H1∧H.nx+1<H1.nx∧H1.get H.nx=some (.arr [.i .i64 fc,.i .i64 cl,.i .i64 ln,.i .i64 kd,p,q,.o (.str gd),w] 69 0 0)∧H1.get (H.nx+1)=some (.arr [.i .i64 fc,.i .i64 cl,.i .i64 ln,.i .i64 kd,p',q',.o (.str gd),w'] 69 0 0)∧slot A1.tm 2=.one ((.o (.ptr H.nx 0 0 8)))∧slot A1.tm 3=.one ((.o (.ptr (H.nx+1) 0 0 8)))∧A1.nt=52∧A1.dfr=[])
  ⟨((Fr.refl _).new _).new _,by show H.nx+1<H.nx+1+1;omega,by rw[aW (by show H.nx<H.nx+1;omega)];exact aB rfl,aB rfl,zL⟩ ?_
 clear h0 h1 tm hK K lp lq lw lp' lq' lw';rintro A1 H1 ⟨g1,n1,ra,rb,t2,t3,B0,C0⟩;have m1:H.nx<H1.nx:=by omega
 have hp:=hp.gr g1;have hq:=hq.gr g1;have hw:=hw.gr g1;have D2:=D2.gr g1;have Z2:=Z2.gr g1;have S1:=S1.gr g1;have c1:(fc==fc)=true:=beq_self_eq_true _;have c2:(cl==cl)=true:=beq_self_eq_true _;have c3:(ln==ln)=true:=beq_self_eq_true _;have c4:(kd==kd)=true:=beq_self_eq_true _;have c5:lEq gd gd=true:=pG gd;have c6:(gd==gd)=true:=beq_self_eq_true _;refine zG (qA tyF Iv) fun K hK=>?_;refine WE.con (Bu H1 p q p' q' nu hp hq D2 Z2 D6 V8) fun v H2 g2 hv=>?_;subst hv;have ra:=(g2.get _ m1 zB2).trans ra;have m1:=zA0 m1 g2.nx;have rb:=(g2.get _ n1 zB2).trans rb;have n1:=zA0 n1 g2.nx;have hw:=hw.gr g2;have S1:=S1.gr g2;refine zS (qA tyF Cb) ?_;refine WE.con (xP H2 w w' ws hw S1 h3') fun v H3 g3 hv=>?_;subst hv;refine zK tyF ?_;exact ⟨_,_,ah (.b true) (.inr rfl) qe qp,(g1.gr g2).gr g3,fun _=>rfl⟩
theorem Jx (H:Hp) (nm:List UInt8) (v w:AC) (l:List Cs) (hv:dI H v l) (hw:dI H w l) (hB:TbB l):
  Con E2 15 [.agg [.o (.str nm),v],.agg [.o (.str nm),w]] H (fun _=>False) fun r _=>r=.one (.b true):=by
 refine Con.of rfl fun lg=>?_;have hv:dI ⟨H.t,H.nx,lg⟩ v l:=hv;have hw:dI ⟨H.t,H.nx,lg⟩ w l:=hw;generalize (⟨H.t,H.nx,lg⟩:Hp)=H at hv hw ⊢;refine C1.body (E:=E2) (nt:=39) (res:=[.tmp 4]) Tryz.func15 rfl rfl rfl rfl rfl fun tm A0=>?_;have h0:=A0 0 _ rfl;have h1:=A0 1 _ rfl;clear A0;have hl:l.length*120≤140737488355328:=hB.c;have l3:=hv.lt;have l4:=hw.lt;refine zG tyF fun K hK=>?_;refine hK.out _ _ ?_;refine R1.gen (fun A1 H1=>Gr H H1∧H.nx+1<H1.nx∧H1.get H.nx=some (.arr [.o (.str nm),v] 26 0 0)∧H1.get (H.nx+1)=some (.arr [.o (.str nm),w] 26 0 0)∧slot A1.tm 2=.one ((.o (.ptr H.nx 0 0 2)))∧slot A1.tm 3=.one ((.o (.ptr (H.nx+1) 0 0 2)))∧A1.nt=39∧A1.dfr=[])
  ⟨((Fr.refl _).new _).new _,by show H.nx+1<H.nx+1+1;omega,by rw[aW (by show H.nx<H.nx+1;omega)];exact aB rfl,aB rfl,zL⟩ ?_
 clear h0 h1 tm hK K l3 l4;rintro A1 H1 ⟨g1,n1,ra,rb,t2,t3,B0,C0⟩;obtain ⟨N,hN⟩:∃ N,N=H.nx:=⟨_,rfl⟩;rw[←hN] at n1 ra rb t2 t3;clear hN;have m1:N<H1.nx:=by omega
 have hv:=hv.gr g1;have hw:=hw.gr g1;have l1:=hv.len;have l2:=hw.len;have l3:=hv.lt;have l4:=hw.lt;have c5:lEq nm nm=true:=pG nm;have c6:(nm==nm)=true:=beq_self_eq_true _;have Z0:((l.length:Int)==(l.length:Int))=true:=beq_self_eq_true _;refine zW tyF ?_;refine R1.cy fun K k1 k2 k3 k4=>?_;refine R1.loop (fun k A H2=>∃ i:Nat,k=l.length - i∧i≤l.length∧Gr H1 H2∧slot A.tm 2=.one ((.o (.ptr N 0 0 2)))∧slot A.tm 3=.one ((.o (.ptr (N+1) 0 0 2)))∧slot A.tm 5=.one (.i .i64 (i:Int))∧A.nt=39∧A.dfr=[]) ?_ l.length ⟨0,rfl,Nat.zero_le _,Fr.refl _,zL⟩;clear t2 t3 B0 C0 A1 l1 l2 l3 l4 k3 c5 c6 Z0;rintro k A H2 ⟨i,rfl,hi,g2,t2,t3,t5,B0,C0⟩;have X1:=hv.gr g2;have G_:=hw.gr g2;have l1:=X1.len;have l3:=X1.lt;have ra2:=(g2.get _ m1 zB2).trans ra;have rb2:=(g2.get _ n1 zB2).trans rb;have m2:=zA0 m1 g2.nx;have n2:=zA0 n1 g2.nx;refine zW tyF ?_;refine zI tyF (fun hc=>?_) (fun hc=>?_)
 ·have D0:i<l.length:=by omega
  have ex:=zB4 D0;have Q0:=zC1 D0;have B1:=zC2 D0;have G0:l[i]∈l:=List.getElem_mem D0;generalize l[i]=x at ex Q0 B1 G0;have V0:=zC0 i (by omega);have hBn:=hB.n x G0;have hBw:=hB.w x G0;obtain ⟨id,g,off,cells,rfl,hid,P0,L0⟩:=X1.open (by omega);obtain ⟨id',g',off',cells',rfl,F1,I2,X2⟩:=G_.open (by omega);obtain ⟨p,q,u,K0⟩:=L0 i x ex;obtain ⟨p',q',u',L2⟩:=X2 i x ex;have y1:=K0.all;have y2:=K0.le;have y3:=L2.all;have y4:=L2.le;have O4:=Cp H2 x p q u p' q' u' K0.of1 K0.of2 K0.of3 L2.of1 L2.of2 L2.of3 (by omega) (by omega) (by omega);rw[Ma,Ma] at O4;replace O4:Hd (Con E2 _ _ _ _ _):=O4;clear L0 X2 K0 L2 ex Q0 B1 G0 l1 l3;refine zW tyF ?_;refine R1.cy fun K2 q1 q2 q3 q4=>?_;refine zG (qA tyF (qA (ixC D0) Ii)) fun K3 l5=>?_;refine WE.con O4.out fun w3 H3 g3 S4=>?_;subst S4;have g13:=g2.gr g3;clear O4 P0 I2 hid F1 y1 y2 y3 y4 ra2 rb2;refine zK tyF ?_;refine q1.out _ _ ?_;refine zW tyF ?_;exact ⟨l.length - (i+1),by omega,i+1,rfl,D0,g13,zL⟩
 refine zW tyF ?_;refine k2.out _ _ ?_;refine zW tyF ?_;exact ⟨_,_,ah (.b true) (.inr rfl) qe qp,g1.gr g2,fun _=>rfl⟩
theorem TbB.nil:TbB []:=⟨by decide,fun _ h=>absurd h List.not_mem_nil,fun _ h=>absurd h List.not_mem_nil⟩
open Go Go.Eng Go.ChangeShapes Go.WideShapes
abbrev WV:=fJ wS (Dl .i64)
abbrev CL:=xO Tryz.prog 185 2 WV
abbrev LB:=fJ (Dl .i64) (fJ (Dl .i64) (fJ (Dl .i64) (fJ (Dl .i64) (fJ UY (fJ wS CL)))))
abbrev Km:=xO Tryz.prog 69 8 LB
abbrev Yx:=fJ wS Km
abbrev Ke:=fJ LF (fJ BI Yx)
theorem Pb:jP CL:=nQ (ct ck eL)
theorem Tu:jP LB:=ct eL (ct eL (ct eL (ct eL (ct Ng (ct ck Pb)))))
theorem Et:jP LF:=nQ (ct ck yy)
theorem AF:jP BI:=nQ (ct ck (ct ck yw))
theorem SA {W:World}:Opn Tryz.prog W 2 WV 185:=ef Tryz.underlying185 (by kernel_rfl) rfl (bZ (gN Tryz.underlying9) ck (gb (lE Tryz.underlying3)))
theorem Oe {W:World} (hB:ni W):Opn Tryz.prog W 1 CL 67:=gM Tryz.underlying67 (by kernel_rfl) (by decide) (ct ck eL) hB SA
theorem Py {W:World} (hB:ni W):Opn Tryz.prog W 8 LB 69:=ef Tryz.underlying69 (by kernel_rfl) rfl (bZ (lE Tryz.underlying3) eL (bZ (lE Tryz.underlying3) eL (bZ (lE Tryz.underlying3) eL (bZ (lE Tryz.underlying3) eL (bZ (Vv hB) Ng (bZ (gN Tryz.underlying9) ck (gb (Oe hB))))))))
theorem Pq {W:World} (hB:ni W):Opn Tryz.prog W 1 Km 24:=gM Tryz.underlying24 (by kernel_rfl) (by decide) Tu hB (Py hB)
theorem UA {W:World} (hB:ni W):Opn Tryz.prog W 2 Yx 26:=ef Tryz.underlying26 (by kernel_rfl) rfl (bZ (gN Tryz.underlying9) ck (gb (Pq hB)))
theorem NZ {W:World} (hB:ni W):Opn Tryz.prog W 4 Ke 28:=ef Tryz.underlying28 (by kernel_rfl) rfl (bZ (Sg hB) Et (bZ (Pv hB) AF (gb (UA hB))))
theorem IY {W:World}:IT Tryz.prog W 4 Ke 28:=tn Tryz.underlying28 (by kernel_rfl) rfl (pj (pc Tryz.underlying22) Et (pj (pc Tryz.underlying23) AF (zu (tn Tryz.underlying26 (by kernel_rfl) rfl (pj (gN Tryz.underlying9).z ck (zu (pc Tryz.underlying24)))))))
theorem Cj:Tryz.prog.bytesOf 185=24:=by kernel_rfl
theorem Cu:Tryz.prog.bytesOf 69=120:=by kernel_rfl
def Fh (x:Int×Int×Int×Int×Nm×List UInt8×List Pr):Cs:=⟨x.1,x.2.1,x.2.2.1,x.2.2.2.1,x.2.2.2.2.1,x.2.2.2.2.2.1,x.2.2.2.2.2.2⟩
theorem LQ {α β γ:Type} {P:γ→β→Prop} {f:α→β}:∀ {css:List γ} {l:List α},Al (fun c x=>P c (f x)) css l→Al P css (l.map f)
 | [],[],_=>trivial
 | _::_,_::_,h=>⟨h.1,LQ h.2⟩
 | [],_::_,h=>h.elim
 | _::_,[],h=>h.elim
theorem Rz {B:Nat} {H:Hp} {c:List AC} {us:List Pr} (h:CL B H c us):∃ u,c=[u]∧SlP H u us∧us.length*24≤B:=by
 obtain ⟨u,rfl,⟨css,h1,h2⟩,h3⟩:=h;refine ⟨u,rfl,?_,by rwa [Cj] at h3⟩;have:=rF (f:=prC) (h2.mono fun c x ⟨_,c1,c2,e,a,b⟩=>by rw[e,a.1,b.1];rfl);rw[this] at h1;exact h1
theorem Ny {B:Nat} {H:Hp} {c:List AC} {x:Int×Int×Int×Int×Nm×List UInt8×List Pr} (h:LB B H c x):CsR H c (Fh x)∧(Fh x).num.1.length*32≤B∧(Fh x).num.2.length*32≤B∧(Fh x).ws.length*24≤B:=by
 obtain ⟨c1,c2,rfl,a,c3,c4,rfl,b,c5,c6,rfl,d,c7,c8,rfl,e,c9,c10,rfl,f,c11,c12,rfl,g,k⟩:=h;obtain ⟨p,q,rfl,e1,e2,e3,e4⟩:=XC f;obtain ⟨u,rfl,e5,e6⟩:=Rz k;exact ⟨⟨p,q,u,by rw[a.1,b.1,d.1,e.1,g.1];rfl,e1,e2,e5⟩,e3,e4,e6⟩
theorem TQ {B:Nat} {H:Hp} {c:List AC} {l:List (Int×Int×Int×Int×Nm×List UInt8×List Pr)} (hB:B≤140737488355328) (h:Km B H c l):∃ u,c=[u]∧dI H u (l.map Fh)∧TbB (l.map Fh):=by
 obtain ⟨u,rfl,⟨css,h1,h2⟩,h3⟩:=h;rw[Cu] at h3;have key:=Al.all (fun c x ⟨_,h⟩=>(Ny h).2) h2;refine ⟨u,rfl,⟨css,by rw[List.length_map];exact h1,LQ (h2.mono fun c x ⟨hl,h⟩=>⟨hl,(Ny h).1⟩)⟩,⟨by rw[List.length_map];omega,fun x hx=>?_,fun x hx=>?_⟩⟩
 ·obtain ⟨y,hy,rfl⟩:=List.mem_map.1 hx;have:=key y hy;omega
 obtain ⟨y,hy,rfl⟩:=List.mem_map.1 hx;have:=key y hy;omega
theorem PF {B:Nat} {H:Hp} {c:List AC} {x:List Lad×List Gd×List UInt8×List (Int×Int×Int×Int×Nm×List UInt8×List Pr)} (hB:B≤140737488355328) (h:Ke B H c x):∃ lv gv tv,c=[lv,gv,.o (.str x.2.2.1),tv]∧fL H lv x.1∧SlG H gv x.2.1∧(∀ y∈x.2.1,y.2.2.length*16≤140737488355328)∧dI H tv (x.2.2.2.map Fh)∧TbB (x.2.2.2.map Fh):=by
 obtain ⟨c1,c2,rfl,a,c3,c4,rfl,b,c5,c6,rfl,d,e⟩:=h;obtain ⟨tv,rfl,e1,e2⟩:=TQ hB e;obtain ⟨lv,rfl,_⟩:=id a;obtain ⟨gv,rfl,_⟩:=id b;refine ⟨lv,gv,tv,by rw[d.1];rfl,(UP a).1,(Hq b).1,fun y hy=>?_,e1,e2⟩;have:=(Hq b).2.2 y hy;omega
theorem Qn:loadT Tryz.prog 160=some (false,1):=by kernel_rfl
theorem Qv:aU Tryz.prog 160=some 1:=by kernel_rfl
theorem Rp:(ax Tryz.prog 160).map (fun z=>(ofValue z).cells)=some [.i .u64 0]:=by kernel_rfl
theorem BP:Tryz.prog.underlying 160=some (.int .u64):=by kernel_rfl
theorem QB:aS Tryz.prog 160=4:=by kernel_rfl
theorem QC:loadT Tryz.prog 198=some (false,1):=by kernel_rfl
theorem PY:aU Tryz.prog 198=some 1:=by kernel_rfl
theorem Qt:(ax Tryz.prog 198).map (fun z=>(ofValue z).cells)=some [.i .u64 0]:=by kernel_rfl
theorem sB:Tryz.prog.underlying 198=some (.int .u64):=by kernel_rfl
theorem PE:aS Tryz.prog 198=4:=by kernel_rfl
theorem LH:loadT Tryz.prog 250=some (false,1):=by kernel_rfl
theorem MI:aU Tryz.prog 250=some 1:=by kernel_rfl
theorem LW:(ax Tryz.prog 250).map (fun z=>(ofValue z).cells)=some [.i .u64 0]:=by kernel_rfl
theorem UZ:Tryz.prog.underlying 250=some (.int .u64):=by kernel_rfl
theorem Ls:aS Tryz.prog 250=4:=by kernel_rfl
theorem WH:loadT Tryz.prog 5=some (false,1):=by kernel_rfl
theorem lO:Tryz.prog.underlying 5=some (.int .u8):=by kernel_rfl
theorem WX:aS Tryz.prog 5=4:=by kernel_rfl
def eI {α:Type} (c:α→List AC) (d:Array α):List AC:=d.toList.flatMap c
section
variable {α:Type} [Inhabited α] {c:α→List AC} (hc:∀ x,(c x).length=2)
include hc
omit [Inhabited α] in
theorem vn (d:Array α):(eI c d).length=d.size*2:=by
 unfold eI;rw[cj hc,Array.length_toList]
omit [Inhabited α] in
theorem RZ (d:Array α) (i:Nat) (x:α):(eI c (d.setIfInBounds i x)).length=(eI c d).length:=by
 rw[vn hc,vn hc,Array.size_setIfInBounds]
theorem uw (d:Array α) {i:Nat} (h:i<d.size):((eI c d).drop (i*2)).take 2=c d[i]!:=by
 have e:d.toList[i]?=some d[i]!:=by
  rw[Array.getElem?_toList,getElem!_pos d i h,Array.getElem?_eq_getElem h]
 exact tV hc d.toList i _ e
omit [Inhabited α] in
theorem ub (d:Array α) {i:Nat} (h:i<d.size):i*2+2≤(eI c d).length:=by
 rw[vn hc];omega
omit [Inhabited α] in
theorem za:∀ (l:List α) (i:Nat) (x:α),i<l.length→(l.flatMap c).take (i*2)++(c x++(l.flatMap c).drop (i*2+2))=(l.set i x).flatMap c
 | [],i,_,h=>absurd h (Nat.not_lt_zero i)
 | y::l,0,x,_=>by
  rw[Nat.zero_mul,List.take_zero,List.nil_append,List.flatMap_cons,List.set_cons_zero,List.flatMap_cons,Nat.zero_add,List.drop_append,hc,List.drop_of_length_le (Nat.le_of_eq (hc y)),Nat.sub_self,List.drop_zero,List.nil_append]
 | y::l,i+1,x,h=>by
  have ih:=za l i x (Nat.lt_of_succ_lt_succ h);have e1:(i+1)*2=2+i*2:=by omega
  have e2:2+i*2+2=2+(i*2+2):=by omega
  rw[List.flatMap_cons,List.set_cons_succ,List.flatMap_cons,←ih,e1,e2,List.take_append,List.drop_append,hc,List.take_of_length_le (by rw[hc];omega),List.drop_of_length_le (by rw[hc];omega),List.nil_append,List.append_assoc,Nat.add_sub_cancel_left,Nat.add_sub_cancel_left]
omit [Inhabited α] in
theorem Hl (d:Array α) {i:Nat} (h:i<d.size) (x:α):(eI c d).take (i*2)++(c x++(eI c d).drop (i*2+2))=eI c (d.setIfInBounds i x):=by
 unfold eI;rw[za hc d.toList i x (by rw[Array.length_toList];exact h),Array.toList_setIfInBounds]
theorem swQ {d:Array α} {i j:Nat} (hi:i<d.size) (hj:j<d.size):
  (((eI c d).drop (i*2)).take 2=c d[i]!)∧(((eI c d).drop (j*2)).take 2=c d[j]!)∧i*2+2≤(eI c d).length∧j*2+2≤(eI c d).length∧(∀ (d:Array α) (i:Nat) (x:α),(eI c (d.setIfInBounds i x)).length=(eI c d).length) ∧
  (∀ x,(eI c d).take (i*2)++(c x++(eI c d).drop (i*2+2))=eI c (d.setIfInBounds i x)) ∧
  (∀ x y,(eI c (d.setIfInBounds i x)).take (j*2)++(c y++(eI c (d.setIfInBounds i x)).drop (j*2+2))=eI c ((d.setIfInBounds i x).setIfInBounds j y)):=
 ⟨uw hc d hi,uw hc d hj,ub hc d hi,ub hc d hj,RZ hc,fun x=>Hl hc d hi x,fun x y=>Hl hc _ (by rw[Array.size_setIfInBounds];exact hj) y⟩
theorem rdQ {d:Array α} {i j:Nat} (hi:i<d.size) (hj:j<d.size):
  (((eI c d).drop (i*2)).take 2=c d[i]!)∧(((eI c d).drop (j*2)).take 2=c d[j]!)∧i*2+2≤(eI c d).length∧j*2+2≤(eI c d).length:=
 ⟨uw hc d hi,uw hc d hj,ub hc d hi,ub hc d hj⟩
end
theorem swp_size {α:Type} [Inhabited α] (d:Array α) (i j:Nat):(Go.Sort.swp d i j).size=d.size:=by
 unfold Go.Sort.swp;rw[Array.size_setIfInBounds,Array.size_setIfInBounds]
def Srt {α:Type} (c:α→List AC) (H:Hp) (id gen n:Nat) (d:Array α):Prop:=d.size=n∧(∃ lo,lo≤gen∧H.get id=some (.arr (eI c d) 92 lo gen))∧id<H.nx
theorem Srt.sz {α:Type} {c:α→List AC} {H:Hp} {id gen n:Nat} {d:Array α} (h:Srt c H id gen n d):d.size=n:=h.1
theorem Srt.row {α:Type} {c:α→List AC} {H:Hp} {id gen n:Nat} {d:Array α} (h:Srt c H id gen n d):∃ lo,lo≤gen∧H.get id=some (.arr (eI c d) 92 lo gen):=h.2.1
theorem Srt.lt {α:Type} {c:α→List AC} {H:Hp} {id gen n:Nat} {d:Array α} (h:Srt c H id gen n d):id<H.nx:=h.2.2
structure Cmp {α:Type} (c:α→List AC) (cf:α→α→Int) (cl:FuncId) (N:Nat):Prop where
 len:∀ x,(c x).length=2
 lt:∀ x,ltV (.agg (c x)) N
 bd:ak Tryz.prog cl=true
 con:∀ (H:Hp) (x y:α),N≤H.nx→Con E2 cl [.agg (c x),.agg (c y)] H (fun _=>False) fun r _=>r=.one (.i .i64 (cf x y))
def ltF {α:Type} (cf:α→α→Int) (x y:α):Bool:=decide (cf x y<0)
theorem Cmp.ltH {α:Type} {c:α→List AC} {cf:α→α→Int} {cl:FuncId} {N:Nat} (h:Cmp c cf cl N) {n:Nat} (hn:N≤n):∀ x,ltV (.agg (c x)) n:=fun x i hi=>zA0 (h.lt x i hi) hn
theorem Srt.fr {α:Type} {c:α→List AC} {H H':Hp} {id gen n:Nat} {d:Array α} {X:Nat→Prop} (h:Srt c H id gen n d) (hf:Fr X H H') (hx:¬X id):Srt c H' id gen n d:=by
 obtain ⟨lo,h1,h2⟩:=h.row;exact ⟨h.sz,⟨lo,h1,(hf.get _ h.lt hx).trans h2⟩,zA0 h.lt hf.nx⟩
theorem QE:ak Tryz.prog 146=true:=by kernel_rfl
section
variable {α:Type} [Inhabited α] {c:α→List AC} {cf:α→α→Int} {cl N:Nat}
theorem UW (hm:Cmp c cf cl N) (H:Hp) (id gen n:Nat) (d:Array α) (a b:Nat) (hs:Srt c H id gen n d) (hN:N≤H.nx) (Y5:a≤b) (hb:b≤n) (hn:n≤1099511627776):
  Con E2 146 [.one (.o (.sl id gen 0 n 2)),.one (.i .i64 a),.one (.i .i64 b),.one (.o (.clo cl []))] H (fun k=>k=id) fun r H'=>r=.tup []∧Srt c H' id gen n (Go.Sort.insertionSort (ltF cf) d a b):=by
 have j5:=hm.bd;refine Con.of rfl fun lg=>?_;have hs:Srt c ⟨H.t,H.nx,lg⟩ id gen n d:=hs;have hN:N≤(⟨H.t,H.nx,lg⟩:Hp).nx:=hN;generalize (⟨H.t,H.nx,lg⟩:Hp)=H at hs hN ⊢;refine C1.body (E:=E2) (nt:=53) (res:=[]) Tryz.func146 rfl rfl rfl rfl rfl fun tm A0=>?_;have h0:=A0 0 _ rfl;have h1:=A0 1 _ rfl;have h2:=A0 2 _ rfl;have h3:=A0 3 _ rfl;clear A0;unfold Go.Sort.insertionSort;generalize E0:Go.Sort.insOuter (ltF cf) a b (a+1) d=R;have fin:∀ (A:ab) (H3:Hp) (dc:Array α),A.dfr=[]→Fr (fun k=>k=id) H H3→Srt c H3 id gen n dc→dc=R→∃ w H4,an E2 [] (.normal,A,H3)=.ok [(w,H4)]∧Fr (fun k=>k=id) H H4∧∀ lg':List Nat,w=.tup []∧Srt c ⟨H4.t,H4.nx,lg'⟩ id gen n R:=fun A H3 dc h1 h2 h3 h4=>⟨_,H3,cN (.inl rfl) h1,h2,fun _=>⟨rfl,by rw[←h4];exact h3⟩⟩;have hid:=hs.lt;have R3:=zC0 a (by omega);replace E0:Hd _:=E0;refine zW tyF ?_;refine R1.dZ fun K k1 k2 k3 k4=>?_;refine R1.loop (fun z A H3=>∃ (i:Nat) (dc:Array α),z=b - i∧a+1≤i∧i≤n+1∧Fr (fun k=>k=id) H H3∧Srt c H3 id gen n dc∧Hd (Go.Sort.insOuter (ltF cf) a b i dc=R)∧slot A.tm 0=.one ((.o (.sl id gen 0 n 2)))∧slot A.tm 1=.one (.i .i64 (a:Int))∧slot A.tm 2=.one (.i .i64 (b:Int))∧slot A.tm 3=.one ((.o (.clo cl [])))∧slot A.tm 8=.one (.i .i64 (i:Int))∧A.nt=53∧A.dfr=[]) ?_ (b - (a+1))
  ⟨a+1,d,rfl,zA1 _,by omega,Fr.refl _,hs,E0,zL⟩
 clear h0 h1 h2 h3 tm hs E0 hid R3 k3;rintro z A H3 ⟨i,dc,rfl,hia,F3,f3,hs,hr,t0,t1,t2,t3,t8,B0,C0⟩;have hid:=hs.lt;refine zW tyF ?_;refine zI tyF (fun hc'=>?_) (fun hc'=>?_)
 ·have hib:i<b:=by omega
  have F0:=hr.out;rw[Go.Sort.insOuter,zB0 hib] at F0;clear hr;replace F0:Hd _:=F0;have hwi:=zC0 i (by omega);refine zW tyF ?_;refine R1.cy fun K2 q1 q2 q3 q4=>?_;refine zW tyF ?_;refine R1.dZ fun K3 p1 p2 p3 p4=>?_;refine R1.loop (fun z A H4=>∃ (j:Nat) (dj:Array α),z=j∧j≤i∧Fr (fun k=>k=id) H H4∧Srt c H4 id gen n dj∧Hd (Go.Sort.insOuter (ltF cf) a b (i+1) (Go.Sort.insInner (ltF cf) a j dj)=R)∧slot A.tm 0=.one ((.o (.sl id gen 0 n 2)))∧slot A.tm 1=.one (.i .i64 (a:Int))∧slot A.tm 2=.one (.i .i64 (b:Int))∧slot A.tm 3=.one ((.o (.clo cl [])))∧slot A.tm 8=.one (.i .i64 (i:Int))∧slot A.tm 9=.one (.i .i64 (j:Int))∧A.nt=53∧A.dfr=[]) ?_ i
   ⟨i,dc,rfl,zA1 _,f3,hs,F0,zL⟩
  clear t0 t1 t2 t3 t8 B0 C0 A F0 hs hid f3 p3 q3;rintro j A H4 ⟨_,dj,rfl,m9,f4,hs,hr,t0,t1,t2,t3,t8,t9,B0,C0⟩;have hid:=hs.lt;by_cases hja:a<j
  ·obtain ⟨j,rfl⟩:∃ k,j=k+1:=⟨j - 1,by omega⟩;have hja':(a:Int)<((j+1:Nat):Int):=by omega
   have hwj:IntKind.i64.wrap (((j+1:Nat):Int) - 1)=(j:Int):=by rw[ao (by omega) (by omega)];omega
   obtain ⟨lo,P2,hg⟩:=hs.row;have R0:=hs.sz;have C_:j+1<n:=by omega
   have hj0:j<n:=by omega
   have lv:=hm.ltH (zA2 hN f4.nx);have W0:=hm.len;replace R0:Hd _:=R0;refine zG (qA tyF (qA (ixC C_) (qA (ixC hj0) (rdQ hm.len (d:=dj) (i:=j+1) (j:=j) (by have:=R0.out;omega) (by have:=R0.out;omega))))) fun K hK=>?_;refine WE.con (hm.con H4 dj[j+1]! dj[j]! (zA2 hN f4.nx)) fun w' H5 g5 hq=>?_;subst hq;have hg:=(g5.get _ hid zB2).trans hg;have hid:=zA0 hid g5.nx;have lv:=hm.ltH (zA2 hN (zA2 f4.nx g5.nx));have f5:=f4.then g5 fun _ h=>h.elim;have N0:=hr.out;rw[Go.Sort.insInner] at N0;by_cases T3:cf dj[j+1]! dj[j]!<0
   ·have o6:(decide (j+1>a)&&ltF cf dj[j+1]! dj[j]!)=true:=by
     rw[decide_eq_true (by omega:j+1>a)];exact decide_eq_true T3
    rw[zB0 o6] at N0;clear hr o6;replace N0:Hd _:=N0;refine zK tyF ?_;refine R1.cy fun K4 u1 u2 u3 u4=>?_;refine zW (qA tyF (qA (ixC C_) (qA (ixC hj0) (swQ hm.len (d:=dj) (i:=j+1) (j:=j) (by have:=R0.out;omega) (by have:=R0.out;omega))))) ?_;refine u1.out _ _ ?_;refine zW tyF ?_;exact ⟨j,zA6 _,j,Go.Sort.swp dj (j+1) j,rfl,by omega,(f5.mod _ (.inr rfl)).mod _ (.inr rfl),⟨by rw[swp_size];exact R0.out,⟨gen,zA1 _,al rfl⟩,hid⟩,N0,zL⟩
   have o6:(decide (j+1>a)&&ltF cf dj[j+1]! dj[j]!)=false:=by
    rw[decide_eq_true (by omega:j+1>a)];exact decide_eq_false T3
   rw[zB1 (by rw[o6];decide)] at N0;clear hr o6;replace N0:Hd _:=N0;refine zK tyF ?_;refine p2.out _ _ ?_;refine q1.out _ _ ?_;refine zW tyF ?_;exact ⟨b - (i+1),by omega,i+1,dj,rfl,by omega,by omega,f5,⟨R0.out,⟨lo,P2,hg⟩,hid⟩,N0,zL⟩
  have hja':¬(a:Int)<(j:Int):=by omega
  have N0:=hr.out;have F3:Go.Sort.insInner (ltF cf) a j dj=dj:=by
   cases j with
   | zero=>rfl
   | succ j=>rw[Go.Sort.insInner,decide_eq_false (by omega:¬j+1>a),Bool.false_and,zB1 (by decide)]
  rw[F3] at N0;clear hr F3;replace N0:Hd _:=N0;refine zW tyF ?_;refine p2.out _ _ ?_;refine q1.out _ _ ?_;refine zW tyF ?_;exact ⟨b - (i+1),by omega,i+1,dj,rfl,by omega,by omega,f4,hs,N0,zL⟩
 have hib:¬i<b:=by omega
 have F0:=hr.out;rw[Go.Sort.insOuter,zB1 hib] at F0;refine zW tyF ?_;refine k2.out _ _ ?_;exact fin _ _ _ qe f3 hs F0
end
theorem LM:ak Tryz.prog 179=true:=by kernel_rfl
theorem Wh:ak Tryz.prog 147=true:=by kernel_rfl
section
variable {α:Type} [Inhabited α] {c:α→List AC} {cf:α→α→Int} {cl N:Nat}
theorem Ho (hm:Cmp c cf cl N) (H:Hp) (id gen n:Nat) (d:Array α) (root hi first:Nat) (hs:Srt c H id gen n d) (hN:N≤H.nx) (hf:first+hi≤n) (hr:root≤n) (hn:n≤1099511627776):
  Con E2 179 [.one (.o (.sl id gen 0 n 2)),.one (.i .i64 root),.one (.i .i64 hi),.one (.i .i64 first),.one (.o (.clo cl []))] H (fun k=>k=id) fun r H'=>r=.tup []∧Srt c H' id gen n (Go.Sort.siftDown (ltF cf) hi first root d):=by
 have j5:=hm.bd;refine Con.of rfl fun lg=>?_;have hs:Srt c ⟨H.t,H.nx,lg⟩ id gen n d:=hs;have hN:N≤(⟨H.t,H.nx,lg⟩:Hp).nx:=hN;generalize (⟨H.t,H.nx,lg⟩:Hp)=H at hs hN ⊢;refine C1.body (E:=E2) (nt:=82) (res:=[]) Tryz.func179 rfl rfl rfl rfl rfl fun tm A0=>?_;have h0:=A0 0 _ rfl;have h1:=A0 1 _ rfl;have h2:=A0 2 _ rfl;have h3:=A0 3 _ rfl;have h4:=A0 4 _ rfl;clear A0;generalize E0:Go.Sort.siftDown (ltF cf) hi first root d=R;have fin:∀ (e:aA) (A:ab) (H3:Hp) (dc:Array α),(e=.normal∨e=.ret)→A.dfr=[]→Fr (fun k=>k=id) H H3→Srt c H3 id gen n dc→dc=R→∃ w H4,an E2 [] (e,A,H3)=.ok [(w,H4)]∧Fr (fun k=>k=id) H H4∧∀ lg':List Nat,w=.tup []∧Srt c ⟨H4.t,H4.nx,lg'⟩ id gen n R:=fun e A H3 dc he h1 h2 h3 h4=>⟨_,H3,cN he h1,h2,fun _=>⟨rfl,by rw[←h4];exact h3⟩⟩;have hid:=hs.lt;replace E0:Hd _:=E0;refine zW tyF ?_;refine R1.dZ fun K k1 k2 k3 k4=>?_;refine R1.loop (fun z A H3=>∃ (ro:Nat) (dc:Array α),z=n+1 - ro∧ro≤n∧Fr (fun k=>k=id) H H3∧Srt c H3 id gen n dc∧Hd (Go.Sort.siftDown (ltF cf) hi first ro dc=R)∧slot A.tm 0=.one ((.o (.sl id gen 0 n 2)))∧slot A.tm 2=.one (.i .i64 (hi:Int))∧slot A.tm 3=.one (.i .i64 (first:Int))∧slot A.tm 4=.one ((.o (.clo cl [])))∧slot A.tm 10=.one (.i .i64 (ro:Int))∧A.nt=82∧A.dfr=[]) ?_ (n+1 - root)
  ⟨root,d,rfl,hr,Fr.refl _,hs,E0,zL⟩
 clear h0 h1 h2 h3 h4 tm hs E0 hid k3;rintro z A H3 ⟨ro,dc,rfl,R6,f3,hs,hr,t0,t2,t3,t4,t10,B0,C0⟩;have hid:=hs.lt;have R0:=hs.sz;obtain ⟨lo,P2,hg⟩:=hs.row;replace R0:Hd _:=R0;have hwa:IntKind.i64.wrap (2*(ro:Int))=((2*ro:Nat):Int):=by rw[ao (by omega) (by omega)];omega
 have hwb:IntKind.i64.wrap (((2*ro:Nat):Int)+1)=((2*ro+1:Nat):Int):=by rw[ao (by omega) (by omega)];omega
 have F0:=hr.out;rw[Go.Sort.siftDown] at F0;refine R1.dZ fun K2 q1 q2 q3 q4=>?_;by_cases hch:hi≤2*ro+1
 ·rw[dif_pos hch] at F0;have p9:(hi:Int)≤((2*ro+1:Nat):Int):=by omega
  replace F0:Hd _:=F0;clear hr;refine zW tyF ?_;refine q3.out _ _ _ (by decide) ?_;refine k2.out _ _ ?_;exact fin _ _ _ _ (.inl rfl) qe f3 hs F0.out
 rw[dif_neg hch] at F0;have p9:¬(hi:Int)≤((2*ro+1:Nat):Int):=by omega
 clear hr;replace F0:Hd _:=F0;refine zW tyF ?_;have lv:=hm.ltH (zA2 hN f3.nx);have W0:=hm.len;have hwc:IntKind.i64.wrap (((2*ro+1:Nat):Int)+1)=((2*ro+2:Nat):Int):=by rw[ao (by omega) (by omega)];omega
 have hwd:IntKind.i64.wrap ((first:Int)+((2*ro+1:Nat):Int))=((first+(2*ro+1):Nat):Int):=by rw[ao (by omega) (by omega)];omega
 have hwe:IntKind.i64.wrap (((first+(2*ro+1):Nat):Int)+1)=((first+(2*ro+1)+1:Nat):Int):=by rw[ao (by omega) (by omega)];omega
 repeat refine R1.aE ?_
 refine R1.s_h (by kernel_rfl) fun K3 l5=>?_;have tail:Hd (∀ (bb:Bool) (A:ab) (H4:Hp),Fr (fun k=>k=id) H H4→Srt c H4 id gen n dc→(bb=true→2*ro+2<hi)→Hd ((if bb=true then (if (!ltF cf dc[first+ro]! dc[first+(2*ro+2)]!)=true then dc else if 2*ro+2<hi then Go.Sort.siftDown (ltF cf) hi first (2*ro+2) (Go.Sort.swp dc (first+ro) (first+(2*ro+2))) else dc) else (if (!ltF cf dc[first+ro]! dc[first+(2*ro+1)]!)=true then dc else Go.Sort.siftDown (ltF cf) hi first (2*ro+1) (Go.Sort.swp dc (first+ro) (first+(2*ro+1)))))=R)→slot A.tm 40=.one (.b bb)∧slot A.tm 0=.one ((.o (.sl id gen 0 n 2)))∧slot A.tm 2=.one (.i .i64 (hi:Int))∧slot A.tm 3=.one (.i .i64 (first:Int))∧slot A.tm 4=.one ((.o (.clo cl [])))∧slot A.tm 10=.one (.i .i64 (ro:Int))∧slot A.tm 11=.one (.i .i64 ((2*ro+1:Nat):Int))∧A.nt=82∧A.dfr=[]→K3 A H4):=by
  clear t0 t2 t3 t4 t10 B0 C0 A hs hg hid F0 f3 lv P2 hwd hwe p9;rintro bb A H4 f4 hs hbb hr ⟨t40,t0,t2,t3,t4,t10,t11,B0,C0⟩;refine l5.out _ _ ?_;clear l5 K3;refine R1.gX (fun B H5=>∃ ch:Nat,ro<ch∧ch<hi∧H4=H5∧Hd ((if (!ltF cf dc[first+ro]! dc[first+ch]!)=true then dc else Go.Sort.siftDown (ltF cf) hi first ch (Go.Sort.swp dc (first+ro) (first+ch)))=R)∧slot B.tm 0=.one ((.o (.sl id gen 0 n 2)))∧slot B.tm 2=.one (.i .i64 (hi:Int))∧slot B.tm 3=.one (.i .i64 (first:Int))∧slot B.tm 4=.one ((.o (.clo cl [])))∧slot B.tm 10=.one (.i .i64 (ro:Int))∧slot B.tm 11=.one (.i .i64 (ch:Int))∧B.nt=82∧B.dfr=[]) (fun K4 m1 m2 m3=>?_) ?_
  ·cases bb with
   | true=>
    have h2:=hbb rfl;have F0:=hr.out;rw[zB0 rfl,zB0 h2] at F0;clear hr hs hbb;replace F0:Hd _:=F0;refine zW tyF ?_;refine m1.out _ _ ?_;exact ⟨2*ro+2,by omega,h2,rfl,F0,zL⟩
   | false=>
    have F0:=hr.out;rw[zB1 (by decide)] at F0;clear hr hs hbb;replace F0:Hd _:=F0;refine zW tyF ?_;refine m1.out _ _ ?_;exact ⟨2*ro+1,by omega,by omega,rfl,F0,zL⟩
  clear t0 t2 t3 t4 t10 t11 t40 B0 C0 A hr hbb bb hwa hwb hwc hch;rintro A _ ⟨ch,hrc,hch,rfl,hr,t0,t2,t3,t4,t10,t11,B0,C0⟩;have hid:=hs.lt;obtain ⟨lo,P2,hg⟩:=hs.row;have lv:=hm.ltH (zA2 hN f4.nx);have R3:IntKind.i64.wrap ((first:Int)+(ro:Int))=((first+ro:Nat):Int):=by rw[ao (by omega) (by omega)];omega
  have V0:IntKind.i64.wrap ((first:Int)+(ch:Int))=((first+ch:Nat):Int):=by rw[ao (by omega) (by omega)];omega
  have b1:first+ro<n:=by omega
  have b2:first+ch<n:=by omega
  have d1:first+ro<dc.size:=by have:=R0.out;omega
  have d2:first+ch<dc.size:=by have:=R0.out;omega
  replace d1:Hd _:=d1;replace d2:Hd _:=d2;refine zG (qA tyF (qA (ixC b1) (qA (ixC b2) (rdQ hm.len d1.out d2.out)))) fun K hK=>?_;refine WE.con (hm.con H4 dc[first+ro]! dc[first+ch]! (zA2 hN f4.nx)) fun w' H5 g5 hq=>?_;subst hq;have V1:=hs.fr g5 zB2;have hg:=(g5.get _ hid zB2).trans hg;have hid:=zA0 hid g5.nx;have lv:=hm.ltH (zA2 hN (zA2 f4.nx g5.nx));have f5:=f4.then g5 fun _ h=>h.elim;have F0:=hr.out;clear hr hs f4 g5;by_cases T3:cf dc[first+ro]! dc[first+ch]!<0
  ·have o6:(!ltF cf dc[first+ro]! dc[first+ch]!)=false:=by
    unfold ltF;rw[decide_eq_true T3];rfl
   rw[o6,zB1 (by decide)] at F0;clear o6 V1;replace F0:Hd _:=F0;refine zK (qA tyF (qA (ixC b1) (qA (ixC b2) (swQ hm.len d1.out d2.out)))) ?_;refine q1.out _ _ ?_;exact ⟨n+1 - ch,by omega,ch,Go.Sort.swp dc (first+ro) (first+ch),rfl,by omega,(f5.mod _ (.inr rfl)).mod _ (.inr rfl),⟨by rw[swp_size];exact R0.out,⟨gen,zA1 _,al rfl⟩,hid⟩,F0,zL⟩
  have o6:(!ltF cf dc[first+ro]! dc[first+ch]!)=true:=by
   unfold ltF;rw[decide_eq_false T3];rfl
  rw[o6,zB0 rfl] at F0;clear o6;replace F0:Hd _:=F0;replace V1:Hd _:=V1;refine zK tyF ?_;refine q4.out _ _ (k4.out _ _ ?_);exact fin _ _ _ _ (.inr rfl) qe f5 V1.out F0.out
 by_cases h2:2*ro+2<hi
 ·have h2i:((2*ro+2:Nat):Int)<(hi:Int):=by omega
  have b1:first+(2*ro+1)<n:=by omega
  have b2:first+(2*ro+1)+1<n:=by omega
  have d1:first+(2*ro+1)<dc.size:=by have:=R0.out;omega
  have d2:first+(2*ro+1)+1<dc.size:=by have:=R0.out;omega
  replace d1:Hd _:=d1;replace d2:Hd _:=d2;refine zS (qA tyF (qA (ixC b1) (qA (ixC b2) (rdQ hm.len d1.out d2.out)))) ?_;refine WE.con (hm.con H3 dc[first+(2*ro+1)]! dc[first+(2*ro+1)+1]! (zA2 hN f3.nx)) fun w' H5 g5 hq=>?_;subst hq;have V1:=hs.fr g5 zB2;have f5:=f3.then g5 fun _ h=>h.elim;have J0:=F0.out;have e0:(decide (2*ro+1+1<hi)&&ltF cf dc[first+(2*ro+1)]! dc[first+(2*ro+1)+1]!)=decide (cf dc[first+(2*ro+1)]! dc[first+(2*ro+1)+1]!<0):=by
   rw[decide_eq_true (by omega:2*ro+1+1<hi)];rfl
  rw[e0] at J0;clear F0 e0 hs g5;replace J0:Hd _:=J0;replace V1:Hd _:=V1;replace f5:Hd _:=f5;refine zS tyF ?_;exact tail.out (decide (cf dc[first+(2*ro+1)]! dc[first+(2*ro+1)+1]!<0)) _ _ f5.out V1.out (fun _=>h2) J0 zL
 have h2i:¬((2*ro+2:Nat):Int)<(hi:Int):=by omega
 have J0:=F0.out;rw[decide_eq_false (by omega:¬2*ro+1+1<hi),Bool.false_and] at J0;clear F0;replace J0:Hd _:=J0;refine zS tyF ?_;exact tail.out false _ _ f3 hs (fun h=>by cases h) J0 zL
theorem QW (hm:Cmp c cf cl N) (H:Hp) (id gen n:Nat) (d:Array α) (a b:Nat) (hs:Srt c H id gen n d) (hN:N≤H.nx) (Y5:a≤b) (hb:b≤n) (hn:n≤1099511627776):
  Con E2 147 [.one (.o (.sl id gen 0 n 2)),.one (.i .i64 a),.one (.i .i64 b),.one (.o (.clo cl []))] H (fun k=>k=id) fun r H'=>r=.tup []∧Srt c H' id gen n (Go.Sort.heapSort (ltF cf) d a b):=by
 have j5:=hm.bd;refine Con.of rfl fun lg=>?_;have hs:Srt c ⟨H.t,H.nx,lg⟩ id gen n d:=hs;have hN:N≤(⟨H.t,H.nx,lg⟩:Hp).nx:=hN;generalize (⟨H.t,H.nx,lg⟩:Hp)=H at hs hN ⊢;refine C1.body (E:=E2) (nt:=60) (res:=[]) Tryz.func147 rfl rfl rfl rfl rfl fun tm A0=>?_;have h0:=A0 0 _ rfl;have h1:=A0 1 _ rfl;have h2:=A0 2 _ rfl;have h3:=A0 3 _ rfl;clear A0;unfold Go.Sort.heapSort;generalize E0:Go.Sort.heapPop (ltF cf) a (b - a) (Go.Sort.heapBuild (ltF cf) (b - a) a ((b - a - 1) / 2+1) d)=R;have fin:∀ (e:aA) (A:ab) (H3:Hp) (dc:Array α),(e=.normal∨e=.ret)→A.dfr=[]→Fr (fun k=>k=id) H H3→Srt c H3 id gen n dc→dc=R→∃ w H4,an E2 [] (e,A,H3)=.ok [(w,H4)]∧Fr (fun k=>k=id) H H4∧∀ lg':List Nat,w=.tup []∧Srt c ⟨H4.t,H4.nx,lg'⟩ id gen n R:=fun e A H3 dc he h1 h2 h3 h4=>⟨_,H3,cN he h1,h2,fun _=>⟨rfl,by rw[←h4];exact h3⟩⟩;have hid:=hs.lt;obtain ⟨w,hw⟩:∃ w,w=b - a:=⟨_,rfl⟩;rw[←hw] at E0;have hw0:IntKind.i64.wrap ((b:Int) - (a:Int))=(w:Int):=by rw[ao (by omega) (by omega)];omega
 have R3:IntKind.i64.wrap ((w:Int) - 1)=(w:Int) - 1:=by rw[ao (by omega) (by omega)]
 have V0:IntKind.i64.wrap (((w:Int) - 1).tdiv 2)=(((w - 1) / 2:Nat):Int):=by
  rcases Nat.eq_zero_or_pos w with h|h
  ·rw[h];decide
  rw[Int.tdiv_eq_ediv_of_nonneg (by omega),ao (by omega) (by omega)];omega
 replace E0:Hd _:=E0;replace hw:Hd _:=hw;refine zW (qA tyF (qA arQ (JF (show (2:Int)≠0 by decide)))) ?_;refine R1.cy fun K k1 k2 k3 k4=>?_;refine R1.loop (fun z A H3=>∃ (dc:Array α),z≤(w - 1) / 2+1∧Fr (fun k=>k=id) H H3∧Srt c H3 id gen n dc∧Hd (Go.Sort.heapPop (ltF cf) a w (Go.Sort.heapBuild (ltF cf) w a z dc)=R)∧slot A.tm 0=.one ((.o (.sl id gen 0 n 2)))∧slot A.tm 3=.one ((.o (.clo cl [])))∧slot A.tm 8=.one (.i .i64 (a:Int))∧slot A.tm 9=.one (.i .i64 (0:Int))∧slot A.tm 10=.one (.i .i64 (w:Int))∧slot A.tm 11=.one (.i .i64 (((z:Int) - 1):Int))∧A.nt=60∧A.dfr=[]) ?_ ((w - 1) / 2+1)
  ⟨d,zA1 _,Fr.refl _,hs,E0,by rw[show ((((w - 1) / 2+1:Nat):Int) - 1)=(((w - 1) / 2:Nat):Int) from by omega];exact zL⟩
 clear h0 h1 h2 h3 tm hs E0 hid hw0 V0 k3;rintro z A H3 ⟨dc,hz,f3,hs,hr,t0,t3,t8,t9,t10,t11,B0,C0⟩;have hid:=hs.lt;cases z with
 | succ k=>
  rw[show (((k+1:Nat):Int) - 1)=(k:Int) from by omega] at t11;have hk0:(0:Int)≤(k:Int):=by omega
  have hww:=hw.out;have hwk:IntKind.i64.wrap ((k:Int) - 1)=(k:Int) - 1:=by rw[ao (by omega) (by omega)]
  clear hww;refine zW tyF ?_;refine R1.cy fun K2 q1 q2 q3 q4=>?_;refine zG (qA tyF LM) fun K5 x8=>?_;have hww:=hw.out;refine WE.con (Ho hm H3 id gen n dc k w a hs (zA2 hN f3.nx) (by omega) (by omega) hn) fun w' H4 g4 ⟨hq,W3⟩=>?_;subst hq;have F0:=hr.out;rw[Go.Sort.heapBuild] at F0;clear hr;replace F0:Hd _:=F0;refine zK tyF ?_;refine q1.out _ _ ?_;refine zW tyF ?_;exact ⟨k,zA6 _,Go.Sort.siftDown (ltF cf) w a k dc,by omega,f3.then g4 (fun _ h=>.inr h),W3,F0,zL⟩
 | zero=>
  replace t11:slot A.tm 11=.one (.i .i64 (-1)):=t11;have hk0:¬(0:Int)≤-1:=by decide
  have F0:Hd (Go.Sort.heapPop (ltF cf) a w dc=R):=hr;refine zW tyF ?_;refine k2.out _ _ ?_;refine zW tyF ?_;refine R1.dZ fun K2 q1 q2 q3 q4=>?_;refine R1.loop (fun z A H3=>∃ (dc:Array α),z≤w∧Fr (fun k=>k=id) H H3∧Srt c H3 id gen n dc∧Hd (Go.Sort.heapPop (ltF cf) a z dc=R)∧slot A.tm 0=.one ((.o (.sl id gen 0 n 2)))∧slot A.tm 3=.one ((.o (.clo cl [])))∧slot A.tm 8=.one (.i .i64 (a:Int))∧slot A.tm 9=.one (.i .i64 (0:Int))∧slot A.tm 12=.one (.i .i64 (((z:Int) - 1):Int))∧A.nt=60∧A.dfr=[]) ?_ w
   ⟨dc,zA1 _,f3,hs,F0,zL⟩
  clear t0 t3 t8 t9 t10 t11 B0 C0 A hs f3 hid hr F0 q3 R3;rintro z A H3 ⟨dc,hz,f3,hs,hr,t0,t3,t8,t9,t12,B0,C0⟩;have hid:=hs.lt;cases z with
  | succ k=>
   rw[show (((k+1:Nat):Int) - 1)=(k:Int) from by omega] at t12;have hk0:(0:Int)≤(k:Int):=by omega
   have hww:=hw.out;have hwk:IntKind.i64.wrap ((k:Int) - 1)=(k:Int) - 1:=by rw[ao (by omega) (by omega)]
   have hwa:IntKind.i64.wrap ((a:Int)+(k:Int))=((a+k:Nat):Int):=by rw[ao (by omega) (by omega)];omega
   obtain ⟨lo,P2,hg⟩:=hs.row;have R0:=hs.sz;have lv:=hm.ltH (zA2 hN f3.nx);have W0:=hm.len;have b1:a<n:=by omega
   have b2:a+k<n:=by omega
   have d1:a<dc.size:=by omega
   have d2:a+k<dc.size:=by omega
   have T4:=zA2 hN f3.nx;replace d1:Hd _:=d1;replace d2:Hd _:=d2;replace R0:Hd _:=R0;replace hww:Hd _:=hww;refine zW tyF ?_;refine R1.cy fun K3 u1 u2 u3 u4=>?_;refine zW (qA tyF (qA (ixC b1) (qA (ixC b2) (swQ hm.len d1.out d2.out)))) ?_;have f4:Fr (fun k=>k=id) H ((H3.mod id (.arr (eI c (dc.setIfInBounds a dc[a+k]!)) 92 gen gen)).mod id (.arr (eI c (Go.Sort.swp dc a (a+k))) 92 gen gen)):=(f3.mod _ (.inr rfl)).mod _ (.inr rfl);have W3:Srt c ((H3.mod id (.arr (eI c (dc.setIfInBounds a dc[a+k]!)) 92 gen gen)).mod id (.arr (eI c (Go.Sort.swp dc a (a+k))) 92 gen gen)) id gen n (Go.Sort.swp dc a (a+k)):=⟨by rw[swp_size];exact R0.out,⟨gen,zA1 _,al rfl⟩,hid⟩;clear hg P2 lo;replace f4:Hd _:=f4;replace W3:Hd _:=W3;refine zG (qA tyF LM) fun K5 x8=>?_;refine WE.con (Ho hm _ id gen n (Go.Sort.swp dc a (a+k)) 0 k a W3.out T4 (by have:=hww.out;omega) (Nat.zero_le _) hn) fun w' H5 g5 ⟨hq,V1⟩=>?_;subst hq;have F0:=hr.out;rw[Go.Sort.heapPop] at F0;clear hr;replace F0:Hd _:=F0;refine zK tyF ?_;refine u1.out _ _ ?_;refine zW tyF ?_;exact ⟨k,zA6 _,Go.Sort.siftDown (ltF cf) k a 0 (Go.Sort.swp dc a (a+k)),by omega,f4.out.then g5 (fun _ h=>.inr h),V1,F0,zL⟩
  | zero=>
   replace t12:slot A.tm 12=.one (.i .i64 (-1)):=t12;have F0:dc=R:=hr;refine zW tyF ?_;refine q2.out _ _ ?_;exact fin _ _ _ _ (.inl rfl) qe f3 hs F0
end
end Go.Proofs.YtnhbkodnmkojpaaGreat
end

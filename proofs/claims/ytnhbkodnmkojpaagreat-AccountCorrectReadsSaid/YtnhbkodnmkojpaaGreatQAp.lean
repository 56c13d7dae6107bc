/- A part of the proof: BkTb15, BkTb16, BkWr1, BkWr2, BkWr3, BkCo1, BkCo2, BkCo3, BkCo6, BkTArg. No conditions. -/
import Derived.Test.YtnhbkodnmkojpaaGreatQAo
set_option maxRecDepth 100000
set_option maxHeartbeats 64000000
set_option linter.unusedVariables false
set_option linter.unusedSimpArgs false
noncomputable section
namespace Go.Proofs.YtnhbkodnmkojpaaGreat
open Go Go.Eng
theorem MP:al Tryz.prog 31=true:=by kernel_rfl
theorem xI:al Tryz.prog 79=true:=by kernel_rfl
theorem Db:al Tryz.prog 78=true:=by kernel_rfl
theorem Ut:∀ (H:Hp) (lg:List Nat) (c:List AC) (x:Int),BZ H c x→BZ ⟨H.t,H.nx,lg⟩ c x:=fun _ _ _ _ h=>h
theorem dn.lg {X:Nat→Prop} {H:Hp} {cl:List Cl} {rl:List Rl} {el:List Int} {cv rv ev:AC} (h:dn X H cl rl el cv rv ev) (l:List Nat):dn X ⟨H.t,H.nx,l⟩ cl rl el cv rv ev:=by
 obtain ⟨col,r1,r2,r3,h1,h2,h3⟩:=h.own;exact ⟨col,r1,r2,r3,bk.lg Vk h1 l,bk.lg Vl h2 l,bk.lg Ut h3 l⟩
theorem LI (H:Hp) (k gv v:AC) (o:Option (List Lad)) (gs:List Gd) (nm:List UInt8) (cs:List Cs) (hk:bP H k o) (S2:∀ ls,o=some ls→∀ x∈ls,x.2.length≤1000000) (hg:SlG H gv gs) (hv:ca H v cs) (hB:TbB cs) (hO:∀ x∈gs,x.2.2.length≤4611686018427387904):
  Con E2 31 [.one k,.one gv,.agg [.o (.str nm),v]] H (fun _=>False) fun r H'=>∃ a b ev,r=.tup [(true,[a,b]),(false,[ev]),(false,[.i .i64 (gE o gs (nm,cs))])]∧dn (fun j=>j<H.nx) H' (cw o gs (nm,cs)).1 (cw o gs (nm,cs)).2 (bp 0 (eG o gs (nm,cs))) a b ev:=by
 refine Con.of rfl fun lg=>?_;have hk:bP ⟨H.t,H.nx,lg⟩ k o:=bP.same (H:=H) rfl rfl hk;have hg:SlG ⟨H.t,H.nx,lg⟩ gv gs:=hg;have hv:ca ⟨H.t,H.nx,lg⟩ v cs:=hv;have e0:H.nx=(⟨H.t,H.nx,lg⟩:Hp).nx:=rfl;rw[e0];clear e0;generalize (⟨H.t,H.nx,lg⟩:Hp)=H at hk hg hv ⊢;refine C1.body (E:=E2) (nt:=165) (res:=[.cell 6 37,.tmp 7,.tmp 8]) Tryz.func31 rfl rfl rfl rfl rfl fun tm A0=>?_;have h0:=A0 0 _ rfl;have h1:=A0 1 _ rfl;have h2:=A0 2 _ rfl;clear A0;have hl:cs.length*120≤140737488355328:=hB.c;generalize R6:cw o gs (nm,cs)=p0;generalize N0:gE o gs (nm,cs)=e0;generalize x_:bp 0 (eG o gs (nm,cs))=q0;have fin:∀ (a b ev:AC) (A:ab) (H9:Hp) (M:Nat),slot A.tm 6=.one (.o (.ptr M 0 0 2))→slot A.tm 7=.one ev→slot A.tm 8=.one (.i .i64 e0)→closeAll H9 A.dfr=some H9→H9.get M=some (.arr [a,b] 37 0 0)→Gr H H9→dn (fun j=>j<H.nx) H9 p0.1 p0.2 q0 a b ev →
   ∃ w H4,aC E2 [.cell 6 37,.tmp 7,.tmp 8] (.ret,A,H9)=.ok [(w,H4)]∧Gr H H4∧∀ lg:List Nat,∃ a b ev,w=.tup [(true,[a,b]),(false,[ev]),(false,[.i .i64 e0])]∧dn (fun j=>j<H.nx) ⟨H4.t,H4.nx,lg⟩ p0.1 p0.2 q0 a b ev:=fun a b ev A H9 M s6 s7 s8 hd r1 R0 h1=>
  ⟨_,H9,cE (.inr rfl) hd (jD ia s6 (by rw[r1];exact yK) (zA1 _) rfl (qC s7 (qC s8 tl))),R0,fun lg=>⟨a,b,ev,rfl,h1.lg lg⟩⟩
 have bad:∀ (e:Int),e≠0→e0=e→∀ H9:Hp,dn (fun j=>j<H.nx) H9 p0.1 p0.2 q0 (.o .nilS) (.o .nilS) (.o .nilS):=fun e Y0 he H9=>by
  have T':eG o gs (nm,cs)=[]:=zB1 (by rw[N0,he];exact Y0);rw[←R6,←x_];unfold cw;rw[T'];exact dn.nil
 have lv:=hv.lt;replace R6:Hd _:=R6;replace N0:Hd _:=N0;replace x_:Hd _:=x_;refine zG tyF fun K hK=>?_;refine hK.out _ _ ?_;refine R1.gen (fun A1 H1=>Gr H H1∧H.nx+1<H1.nx∧H1.get H.nx=some (.arr [.o (.str nm),v] 26 0 0)∧H1.get (H.nx+1)=some (.arr [.o .nilS,.o .nilS] 37 0 0)∧slot A1.tm 0=.one (k)∧slot A1.tm 1=.one (gv)∧slot A1.tm 5=.one ((.o (.ptr H.nx 0 0 2)))∧slot A1.tm 6=.one ((.o (.ptr (H.nx+1) 0 0 2)))∧slot A1.tm 7=.one ((.o .nilS))∧A1.nt=165∧A1.dfr=[])
  ⟨((Fr.refl _).new _).new _,by show H.nx+1<H.nx+1+1;omega,by rw[aM (by show H.nx<H.nx+1;omega)];exact az rfl,az rfl,zL⟩ ?_
 clear h0 h1 h2 tm hK K lv;rintro A1 H1 ⟨g1,n1,r0,r1,t0,t1,t5,t6,t7,B0,C0⟩;obtain ⟨N,hN⟩:∃ N,N=H.nx:=⟨_,rfl⟩;rw[←hN] at n1 r0 r1 t5 t6;have hNl:H.nx≤N:=Nat.le_of_eq hN.symm;replace hN:Hd _:=hN;have n0:N<H1.nx:=by omega
 have V3:=hk.gr g1;have F4:=hg.gr g1;refine zG (qA tyF vO) fun K hK=>?_;refine WE.con (uX H1 k gv o gs V3 S2 F4 hO) fun w2 H2 g2 C4=>?_;subst C4;have r0:=(g2.get _ n0 zB2).trans r0;have n0:=zA0 n0 g2.nx;have r1:=(g2.get _ n1 zB2).trans r1;have n1:=zA0 n1 g2.nx;have g2:=g1.gr g2;clear g1 V3 F4;by_cases c1:pV o gs=0
 case neg=>
  have he:e0=pV o gs:=by rw[←N0.out];exact zB0 c1
  have b1:=bad _ c1 he ((H2.mod (N+1) (.arr [.o .nilS,.o .nilS] 37 0 0)));have e1:(pV o gs==0)=false:=zB5 c1;rw[←he] at e1 ⊢;have g9:=g2.mod (i:=N+1) (.arr [.o .nilS,.o .nilS] 37 0 0) (.inl (by omega));replace b1:Hd _:=b1;replace g9:Hd _:=g9;clear c1 he bad;refine zK tyF ?_;exact fin _ _ _ _ _ (N+1) (by simp only[aa,Nat.reduceEqDiff,reduceIte,t6]) qp qp (by simp only[ai,C0];rfl) (ak rfl) g9.out b1.out
 have hL:gs.length≤1000000:=QW c1;rw[c1];have N2:=hv.gr g2;have lv:=N2.lt;refine zK tyF ?_;refine zG (qA tyF uH) fun K hK=>?_;refine WE.con (rI H2 nm v cs N2 hB) fun w3 H3 g3 T8=>?_;subst T8;have r0:=(g3.get _ n0 zB2).trans r0;have n0:=zA0 n0 g3.nx;have r1:=(g3.get _ n1 zB2).trans r1;have n1:=zA0 n1 g3.nx;have g3:=g2.gr g3;clear g2 lv N2;by_cases c2:kE (nm,cs)=0
 case neg=>
  have he:e0=kE (nm,cs):=by
   rw[←N0.out];unfold gE;rw[zB1 (fun h=>h c1),zB0 c2]
  have b1:=bad _ c2 he ((H3.mod (N+1) (.arr [.o .nilS,.o .nilS] 37 0 0)));have e1:(kE (nm,cs)==0)=false:=zB5 c2;rw[←he] at e1 ⊢;have g9:=g3.mod (i:=N+1) (.arr [.o .nilS,.o .nilS] 37 0 0) (.inl (by omega));replace b1:Hd _:=b1;replace g9:Hd _:=g9;clear c1 c2 he bad;refine zK tyF ?_;exact fin _ _ _ _ _ (N+1) (by simp only[aa,Nat.reduceEqDiff,reduceIte,t6]) qp qp (by simp only[ai,C0];rfl) (ak rfl) g9.out b1.out
 rw[c2];have C8:=hv.gr g3;have lv:=C8.lt;have ll:=C8.len;have hee:e0=(bQ gs 0 cs []).2:=by
  rw[←N0.out];unfold gE;rw[zB1 (fun h=>h c1),zB1 (fun h=>h c2)]
 have Y2:e0=0→eG o gs (nm,cs)=(bQ gs 0 cs []).1:=fun h=>zB0 (by rw[N0.out];exact h);clear c1 c2;refine zK tyF ?_;refine R1.gen (fun A5 H5=>Gr H H5∧H3.nx+1=H5.nx∧H5.get N=some (.arr [.o (.str nm),v] 26 0 0)∧H5.get (N+1)=some (.arr [.o .nilS,.o .nilS] 37 0 0)∧H5.get H3.nx=some (qQ kvT [])∧slot A5.tm 1=.one (gv)∧slot A5.tm 5=.one ((.o (.ptr N 0 0 2)))∧slot A5.tm 6=.one ((.o (.ptr (N+1) 0 0 2)))∧slot A5.tm 7=.one ((.o .nilS))∧slot A5.tm 11=.one ((.o (.mp H3.nx)))∧A5.nt=165∧A5.dfr=[])
  ⟨g3.new _,rfl,by rw[aM n0];exact r0,by rw[aM n1];exact r1,az rfl,zL⟩ ?_
 clear t0 t1 t5 t6 t7 B0 C0 A1 r0 r1 lv ll;rintro A5 H5 ⟨g5,nB,r0,r1,rMM,t1,t5,t6,t7,t11,B0,C0⟩;obtain ⟨MM,hMM⟩:∃ MM,MM=H3.nx:=⟨_,rfl⟩;have n0:N<H5.nx:=by omega
 have hNM:N+1<MM:=by omega
 rw[←hMM] at nB rMM t11;obtain ⟨B,hBB⟩:∃ B,B=H5.nx:=⟨_,rfl⟩;have hMB:MM<B:=by omega
 have hB5:B≤H5.nx:=Nat.le_of_eq hBB;clear hMM hBB nB g3 C8 n1;have hv5:=hv.gr g5;have lv:=hv5.lt;have ll:=hv5.len;replace hee:Hd _:=hee;replace Y2:Hd _:=Y2;refine zW tyF ?_;clear lv ll hv5;generalize E0:bQ gs 0 cs []=r9 at hee Y2;replace E0:Hd _:=E0;refine R1.dp fun K k1 k2 k3 k4=>?_;refine R1.loop (fun z A H6=>∃ (i:Nat) (kl:List (Cl×Int)) (ml:List ((List UInt8×Int)×AC)) (cv rv ev:AC),z=cs.length - i∧i≤cs.length∧kl.length≤64∧Gr H H6∧B≤H6.nx∧H6.get (N+1)=some (.arr [cv,rv] 37 0 0)∧H6.get MM=some (qQ kvT ml)∧Hd (uz ml kl)∧Hd (bQ gs i (cs.drop i) kl=r9)∧Hd (dn (fun j=>j<B) H6 (kl.map Prod.fst) (dv gs [] kl) (bp 0 kl) cv rv ev) ∧
   slot A.tm 1=.one (gv)∧slot A.tm 6=.one ((.o (.ptr (N+1) 0 0 2)))∧slot A.tm 7=.one (ev)∧slot A.tm 11=.one ((.o (.mp MM)))∧slot A.tm 36=.one (v)∧slot A.tm 37=.one (.i .i64 (cs.length:Int))∧slot A.tm 38=.one (.i .i64 (i:Int))∧A.nt=165∧A.dfr=[]) ?_ cs.length
  ⟨0,[],[],.o .nilS,.o .nilS,.o .nilS,rfl,Nat.zero_le _,Nat.zero_le _,g5,hB5,r1,rMM,uz.nil,E0,dn.nil,zL⟩
 clear t1 t5 t6 t7 t11 B0 C0 A5 r0 r1 rMM k3 g5 E0 hB5 n0 H5;rintro z A H6 ⟨i,kl,ml,cv,rv,ev,rfl,hi,S5,g6,nB,rP,rM,I3,hr,S4,t1,t6,t7,t11,t36,t37,t38,B0,C0⟩;have nP6:N+1<H6.nx:=by omega
 have nM6:MM<H6.nx:=by omega
 have hv6:=hv.gr g6;have l2:=hv6.lt;refine zW tyF ?_;refine zI tyF (fun hc=>?_) (fun hc=>?_)
 ·have D0:i<cs.length:=by omega
  have ex:cs[i]?=some cs[i]:=zB4 D0;have O0:cs.drop i=cs[i]::cs.drop (i+1):=List.drop_eq_getElem_cons D0;have Z0:cs.take (i+1)=cs.take i++[cs[i]]:=List.take_succ_eq_append_getElem D0;have G0:cs[i]∈cs:=List.getElem_mem D0;generalize cs[i]=x at ex O0 Z0 G0;have Q1:=zC0 i (by omega);obtain ⟨id,g,off,cells,rfl,hid,R0,J0⟩:=hv6.open (by omega);obtain ⟨p,q,w,hx⟩:=J0 i x ex;have y1:=hx.all;have y2:=hx.le;have hp:=hx.of1;have hq:=hx.of2;have hBn:=hB.n x G0;have S0:=hr.out;rw[O0,bQ] at S0;clear hx J0 O0 ex G0 Z0 hr;replace S0:Hd _:=S0;refine zW tyF ?_;refine R1.dp fun K2 p1 p2 p3 p4=>?_;refine zG (qA tyF (ixC D0)) fun K3 T4=>?_;refine T4.out _ _ ?_;refine R1.gen (fun A7 H7=>Gr H6 H7∧H6.nx<H7.nx∧H7.get H6.nx=some (.arr [.i .i64 x.face,.i .i64 x.col,.i .i64 x.line,.i .i64 x.kind,p,q,.o (.str x.aN),w] 69 0 0)∧slot A7.tm 1=.one (gv)∧slot A7.tm 6=.one ((.o (.ptr (N+1) 0 0 2)))∧slot A7.tm 7=.one (ev)∧slot A7.tm 11=.one ((.o (.mp MM)))∧slot A7.tm 12=.one (.i .i64 (i:Int))∧slot A7.tm 13=.one ((.o (.ptr H6.nx 0 0 8)))∧slot A7.tm 36=.one ((.o (.sl id g off cs.length 8)))∧slot A7.tm 37=.one (.i .i64 (cs.length:Int))∧slot A7.tm 38=.one (.i .i64 (i:Int))∧A7.nt=165∧A7.dfr=[])
   ⟨((Fr.refl _).new _).mod _ (.inl (zA1 _)),zA6 _,ak rfl,zL⟩ ?_
  clear t1 t6 t7 t11 t36 t37 t38 B0 C0 A y1 y2 T4 K3 R0 hid l2;rintro A H7 ⟨g7,mC,rC,t1,t6,t7,t11,t12,t13,t36,t37,t38,B0,C0⟩;obtain ⟨M,hM⟩:∃ M,M=H6.nx:=⟨_,rfl⟩;have hBM:B≤M:=by omega
  have C7:dn (fun j=>j<B∨j=M) H7 (kl.map Prod.fst) (dv gs [] kl) (bp 0 kl) cv rv ev:=(S4.out.less fun i h=>h.elim .inl fun h=>.inr (by omega)).gr g7;rw[←hM] at mC rC t13;clear hM S4;have rP:=(g7.get _ nP6 zB2).trans rP;have nP6:=zA0 nP6 g7.nx;have rM:=(g7.get _ nM6 zB2).trans rM;have nM6:=zA0 nM6 g7.nx;have g67:=g6.gr g7;have hg7:=hg.gr g67;have y_:=hp.gr g7;have j8:=hq.gr g7;have nB7:B≤H7.nx:=by have:=g7.nx;omega
  clear g6 hv6 hp hq g7 nB;replace C7:Hd _:=C7;have go:Hd (∀ (kl':List (Cl×Int)) (ml':List ((List UInt8×Int)×AC)) (cv' rv' ev':AC) (A:ab) (H5:Hp),slot A.tm 1=.one (gv)∧slot A.tm 6=.one ((.o (.ptr (N+1) 0 0 2)))∧slot A.tm 7=.one (ev')∧slot A.tm 11=.one ((.o (.mp MM)))∧slot A.tm 36=.one ((.o (.sl id g off cs.length 8)))∧slot A.tm 37=.one (.i .i64 (cs.length:Int))∧slot A.tm 38=.one (.i .i64 (i:Int))∧A.nt=165∧A.dfr=[]→kl'.length≤64→Gr H H5→B≤H5.nx→H5.get (N+1)=some (.arr [cv',rv'] 37 0 0)→H5.get MM=some (qQ kvT ml')→uz ml' kl'→bQ gs (i+1) (cs.drop (i+1)) kl'=r9→dn (fun j=>j<B∨j=M) H5 (kl'.map Prod.fst) (dv gs [] kl') (bp 0 kl') cv' rv' ev'→K2 (.exit 1) A H5∧K2 .normal A H5):=by
   clear t1 t6 t7 t11 t12 t13 t36 t37 t38 B0 C0 S0 C7 g67 hg7 y_ j8 rC mC rP rM A S5 I3 nP6 nM6 nB7;rintro kl' ml' cv' rv' ev' A H5 ⟨t1,t6,t7,t11,t36,t37,t38,B0,C0⟩ S5 g5 nB rP rM I3 T2 B8;have B8:=B8.less (X':=fun j=>j<B) fun j h=>.inl (.inl h);replace T2:Hd _:=T2;replace B8:Hd _:=B8;replace I3:Hd _:=I3;constructor
   ·refine p2.out _ _ ?_;refine zW tyF ?_;exact ⟨cs.length - (i+1),by omega,i+1,kl',ml',cv',rv',ev',rfl,D0,S5,g5,nB,rP,rM,I3,T2,B8,zL⟩
   refine p1.out _ _ ?_;refine zW tyF ?_;exact ⟨cs.length - (i+1),by omega,i+1,kl',ml',cv',rv',ev',rfl,D0,S5,g5,nB,rP,rM,I3,T2,B8,zL⟩
  by_cases c1:x.kind=4∨x.aN=[]
  ·have X0:=S0.out;rw[zB0 c1] at X0;replace X0:Hd _:=X0;clear S0;by_cases c4:x.kind=4
   ·have e1:(x.kind==4)=true:=beq_iff_eq.2 c4;clear c1 c4;refine zW tyF ?_;exact (go.out kl ml cv rv ev _ _ zL S5 g67 nB7 rP rM I3.out X0.out C7.out).1
   have e1:(x.kind==4)=false:=zB5 c4;have e2:lEq x.aN []=true:=by rw[cQ,c1.resolve_left c4];rfl
   clear c1 c4;refine zW tyF ?_;exact (go.out kl ml cv rv ev _ _ zL S5 g67 nB7 rP rM I3.out X0.out C7.out).1
  have X0:=S0.out;rw[zB1 c1] at X0;have e1:(x.kind==4)=false:=zB5 fun h=>c1 (.inl h);have e2:lEq x.aN []=false:=by rw[cQ];exact zB5 fun h=>c1 (.inr h)
  replace X0:Hd _:=X0;clear S0 c1;refine zW tyF ?_;refine zG (qA tyF qh) fun K3 T4=>?_;refine WE.con (nY H7 gv gs x.aN hg7 hL) fun w8 H8 g8 Y9=>?_;subst Y9;have rP:=(g8.get _ nP6 zB2).trans rP;have nP6:=zA0 nP6 g8.nx;have rM:=(g8.get _ nM6 zB2).trans rM;have nM6:=zA0 nM6 g8.nx;have rC:=(g8.get _ mC zB2).trans rC;have mC:=zA0 mC g8.nx;have z8:=C7.out.gr g8;have g68:=g67.gr g8;have hg8:=hg7.gr g8;have hp8:=y_.gr g8;have Y9:=j8.gr g8;have nB8:B≤H8.nx:=by have:=g8.nx;omega
  replace z8:Hd _:=z8;clear C7 g67 hg7 y_ j8 g8 nB7;have badE:Hd (∀ (e:Int) (A:ab),slot A.tm 6=.one ((.o (.ptr (N+1) 0 0 2)))∧slot A.tm 7=.one ((.o .nilS))∧slot A.tm 8=.one ((.i .i64 e))∧A.nt=165∧A.dfr=[]→closeAll (H8.mod (N+1) (.arr [.o .nilS,.o .nilS] 37 0 0)) A.dfr=some (H8.mod (N+1) (.arr [.o .nilS,.o .nilS] 37 0 0))→(([]:List (Cl×Int)),e)=r9→e≠0→K2 .ret A (H8.mod (N+1) (.arr [.o .nilS,.o .nilS] 37 0 0))):=by
   clear t1 t6 t7 t11 t12 t13 t36 t37 t38 B0 C0 go X0 A T4 K3;rintro e A ⟨t6,t7,t8,B0,C0⟩ V0 hn Y0;have he:e0=e:=by rw[hee.out,←hn]
   have b1:=bad e Y0 he (H8.mod (N+1) (.arr [.o .nilS,.o .nilS] 37 0 0));subst he;exact p4.out _ _ (k4.out _ _ (fin _ _ _ _ _ (N+1) t6 t7 t8 V0 (ak rfl) (g68.mod _ (.inl (by omega))) b1))
  clear bad fin;by_cases c2:dc 0 gs x.aN<0
  ·have hn:(([]:List (Cl×Int)),(4:Int))=r9:=by rw[←X0.out];exact (zB0 c2).symm
   replace hn:Hd _:=hn;clear X0 go;refine zK tyF ?_;refine R1.dp fun K5 m1 m2 m3 m4=>?_;refine zW tyF ?_;exact m4.out _ _ (badE.out 4 _ zL (by simp only[ai,C0];rfl) hn.out (by decide))
  have T2:=X0.out;rw[zB1 c2] at T2;replace T2:Hd _:=T2;clear X0;obtain ⟨gi,hgi,y8,hgn⟩:=Bg (by omega:0≤dc 0 gs x.aN);rw[hgi] at c2 ⊢;have x8:=(List.getElem?_eq_some_iff.1 y8).1;obtain ⟨gid,gg,goff,gcells,rfl,V7,W7,W_⟩:=hg.open (by omega);have hgid:=zA0 V7 g68.nx;have hggr:rowOf (H8.get gid) gg=some gcells:=by rw[g68.get _ V7 zB2];exact W7
  obtain ⟨gu,Y'⟩:=W_ gi _ y8;have z1:=Y'.le;have k_:=Y'.of;have hgu:=k_.gr g68;have lu:=hgu.len;have lu2:=hgu.lt;have z2:(gcells.drop (goff+gi*3+2)).headD (.b false)=gu:=Y'.f3;have z3:(gcells.drop (goff+gi*3+1)).headD (.b false)=.o (.str (fj gs x.aN).2.1):=Y'.f2;have z4:=Y'.le2;have z5:=Y'.le3;have z0:(gcells.drop (goff+gi*3)).take 3=[.o (.str (fj gs x.aN).1),.o (.str (fj gs x.aN).2.1),gu]:=Y'.all;have hBg:=hO _ (List.mem_of_getElem? y8);clear y8 W_ Y' hgi hgn;replace hBg:Hd _:=hBg;replace W7:Hd _:=W7;replace k_:Hd _:=k_;generalize J_:fj gs x.aN=gd at *;replace J_:Hd _:=J_;have ll8:cR H8 1 (.one cv)=.val (.one (.i .i64 (kl.length:Int))) H8:=by
   have:=z8.out.c.len;rwa [List.length_map] at this
  have lv8:ltV (.one cv) H8.nx:=z8.out.c.lt;refine zK tyF ?_;refine R1.dp fun K5 m1 m2 m3 m4=>?_;refine zW tyF ?_;repeat refine R1.au ?_
  refine R1.s_h (by kernel_rfl) fun K6 N_=>?_;have key:Hd (∀ (b:Bool) (A:ab),slot A.tm 1=.one ((.o (.sl gid gg goff gs.length 3)))∧slot A.tm 6=.one ((.o (.ptr (N+1) 0 0 2)))∧slot A.tm 7=.one (ev)∧slot A.tm 11=.one ((.o (.mp MM)))∧slot A.tm 12=.one (.i .i64 (i:Int))∧slot A.tm 13=.one ((.o (.ptr M 0 0 8)))∧slot A.tm 14=.one (.i .i64 (gi:Int))∧slot A.tm 36=.one ((.o (.sl id g off cs.length 8)))∧slot A.tm 37=.one (.i .i64 (cs.length:Int))∧slot A.tm 38=.one (.i .i64 (i:Int))∧slot A.tm 59=.one (.b b)∧A.nt=165∧A.dfr=[]→decide (x.kind=1∧gd.2.2≠[])=b→K6 A H8):=by
   clear t1 t6 t7 t11 t12 t13 t36 t37 t38 B0 C0 lu lu2 z2 z5 A;rintro b A ⟨t1,t6,t7,t11,t12,t13,t14,t36,t37,t38,t59,B0,C0⟩ hb;refine N_.out _ _ ?_;clear N_ K6;cases b with
   | true=>
    have hn:(([]:List (Cl×Int)),(52:Int))=r9:=by rw[←T2.out];exact (zB0 (of_decide_eq_true hb)).symm
    replace hn:Hd _:=hn;clear T2 go hb;refine zW tyF ?_;exact m4.out _ _ (badE.out 52 _ zL (by simp only[ai,C0];rfl) hn.out (by decide))
   | false=>
   have E8:=T2.out;rw[zB1 (of_decide_eq_false hb)] at E8;clear T2 hb;by_cases c4:kl.length=64
   ·have hn:(([]:List (Cl×Int)),(3:Int))=r9:=by rw[←E8];exact (zB0 c4).symm
    have e5:((kl.length:Int)==64)=true:=beq_iff_eq.2 (by omega);replace hn:Hd _:=hn;clear E8 go c4;refine zW tyF ?_;exact m4.out _ _ (badE.out 3 _ zL (by simp only[ai,C0];rfl) hn.out (by decide))
   rw[zB1 c4] at E8;have e5:((kl.length:Int)==64)=false:=zB5 (by omega);replace E8:Hd _:=E8;clear badE;refine zW tyF ?_;refine m1.out _ _ ?_;clear m2 m3 m4;refine zW tyF ?_;refine zH (qA tyF (qA (ixC x8) Db)) fun K7 hK7=>?_;refine WE.Se (BA H8 p q x.num hp8 Y9 hBn) fun w9 H9 g9 ⟨p',q',hw9,F2,J3,ip,iq⟩=>?_;subst hw9;have rP:=(g9.get _ nP6 zB2).trans rP;have nP6:=zA0 nP6 g9.nx;have rM:=(g9.get _ nM6 zB2).trans rM;have nM6:=zA0 nM6 g9.nx;have rC:=(g9.get _ mC zB2).trans rC;have mC:=zA0 mC g9.nx;have g69:=g68.gr g9;have n89:=g9.nx;have E4:∀ id∈jh [.i .i64 (i:Int),.o (.str x.aN),.o (.str gd.2.1),p',q'],H8.nx≤id∧¬(id<B∨id=M):=fun id hid=>by
    rw[AK] at hid;have h1:H8.nx≤id:=by
     rcases List.mem_append.1 hid with h|h
     ·exact ip id h
     exact iq id h
    exact ⟨h1,by omega⟩
   have V0:ClR H9 [.i .i64 (i:Int),.o (.str x.aN),.o (.str gd.2.1),p',q'] ((i:Int),x.aN,gd.2.1,x.num):=⟨p',q',rfl,F2,J3⟩;obtain ⟨M4,cv',H10,L1,I6,y6⟩:=z8.out.Gs g9 (fun j h=>by omega) rfl V0 E4 (by rw[List.length_map];omega);have I3:(kl++[(((i:Int),x.aN,gd.2.1,x.num),x.kind)]).map Prod.fst=kl.map Prod.fst++[((i:Int),x.aN,gd.2.1,x.num)]:=by rw[List.map_append];rfl
   have V_:(kl++[(((i:Int),x.aN,gd.2.1,x.num),x.kind)]).length≤64:=by rw[List.length_append];show kl.length+1≤64;omega
   have rC10:=(y6.get _ mC fun h=>h (.inr rfl)).trans rC;have rM10:=(y6.get _ nM6 fun h=>h (.inl hMB)).trans rM;have rP10:=(y6.get _ nP6 fun h=>h (.inl (by omega))).trans rP;have mC10:=zA0 mC y6.nx;have nM10:=zA0 nM6 y6.nx;have nP10:=zA0 nP6 y6.nx;have g610:Gr H H10:=g69.then y6 fun q hq=>.inl (by omega);rw[←I3] at I6;clear z8 E4 V0 I3 hp8 Y9 F2 J3 y6 g69 g68 g9 rC rM rP mC nM6 nP6 ip iq z4;replace I6:Hd _:=I6;refine zS (qA tyF jQ) ?_;refine ⟨M4,?_⟩;refine zE tyF ?_;refine R1.gen (fun A12 H12=>Gr H H12∧M<H12.nx∧MM<H12.nx∧H12.get (N+1)=some (.arr [cv',rv] 37 0 0)∧H12.get MM=some (qQ kvT ml)∧H12.get M=some (.arr [.i .i64 x.face,.i .i64 x.col,.i .i64 x.line,.i .i64 x.kind,p,q,.o (.str x.aN),w] 69 0 0)∧Hd (dn (fun j=>j<B∨j=M) H12 ((kl++[(((i:Int),x.aN,gd.2.1,x.num),x.kind)]).map Prod.fst) (dv gs [] kl) (bp 0 kl) cv' rv ev)∧slot A12.tm 1=.one ((.o (.sl gid gg goff gs.length 3)))∧slot A12.tm 6=.one ((.o (.ptr (N+1) 0 0 2)))∧slot A12.tm 7=.one (ev)∧slot A12.tm 11=.one ((.o (.mp MM)))∧slot A12.tm 13=.one ((.o (.ptr M 0 0 8)))∧slot A12.tm 14=.one (.i .i64 (gi:Int))∧slot A12.tm 15=.one (.i .i64 (kl.length:Int))∧slot A12.tm 36=.one ((.o (.sl id g off cs.length 8)))∧slot A12.tm 37=.one (.i .i64 (cs.length:Int))∧slot A12.tm 38=.one (.i .i64 (i:Int))∧A12.nt=165∧A12.dfr=[])
    ⟨g610.mod _ (.inl (by omega)),mC10,nM10,ak rfl,(aq (by omega)).trans rM10,(aq (by omega)).trans rC10,I6.out.fr (Y:=fun j=>j=N+1) ((Fr.refl _).mod _ (.inr rfl)) fun j h=>.inl (.inl (by omega)),zL⟩ ?_
   clear t1 t6 t7 t11 t12 t13 t14 t36 t37 t38 t59 B0 C0 A hK7 K7 L1 M4 I6 rC10 rM10 rP10 mC10 nM10 nP10 g610 hggr hgid z3 ll8 lv8 hg8 n89;rintro A12 H12 ⟨g12,mC,nM,rP,rM,rC,S4,t1,t6,t7,t11,t13,t14,t15,t36,t37,t38,B0,C0⟩;have nB:B≤H12.nx:=by omega
   have nP:N+1<H12.nx:=by omega
   have hbk:K2=K2:=rfl;have b8:=uQ gs kl [] (((i:Int),x.aN,gd.2.1,x.num),x.kind);have b_:=yZ 0 kl (((i:Int),x.aN,gd.2.1,x.num),x.kind);rw[List.nil_append] at b8;rw[Nat.zero_add] at b_;have hell:=ze 0 kl;have hrll:=kC gs [] kl;by_cases c5:x.kind=1
   ·have e3:(x.kind==1)=true:=beq_iff_eq.2 c5;have E0:jP gs kl (((i:Int),x.aN,gd.2.1,x.num),x.kind)=[]:=zB0 c5;rw[E0,List.append_nil] at b8;rw[zB0 (show ((((i:Int),x.aN,gd.2.1,x.num),x.kind):Cl×Int).2=1 from c5)] at b_;obtain ⟨hltE,ev',H13,happE,n_,P7⟩:=S4.out.Vr (Fr.refl _:Gr H12 H12) (fun j h=>by omega) (x:=(kl.length:Int)) (by omega);have rP13:=(P7.get _ nP fun h=>h (.inl (by omega))).trans rP;have rM13:=(P7.get _ nM fun h=>h (.inl hMB)).trans rM;have g13:Gr H H13:=g12.then P7 fun q hq=>.inl (by omega);have nB13:B≤H13.nx:=by have:=P7.nx;omega
    rw[←b_,←b8] at n_;have hmE:=I3.out.entry (x:=(((i:Int),x.aN,gd.2.1,x.num),x.kind)) c5;clear b_ b8 E0 P7 c5 S4 I3;replace n_:Hd _:=n_;replace hmE:Hd _:=hmE;refine zW tyF ?_;refine zG (qA tyF (qA jQ happE)) fun K8 hK8=>?_;refine ⟨hltE,?_⟩;refine zK tyF ?_;exact (go.out _ ml cv' rv ev' _ _ zL V_ g13 nB13 rP13 rM13 hmE.out E8.out n_.out).1
   have e3:(x.kind==1)=false:=zB5 c5;have hru:jP gs kl (((i:Int),x.aN,gd.2.1,x.num),x.kind)=[((kl.length:Int),dw gd (fJ (x.aN,x.kind) 0 0 kl) 0 kl)]:=by
    have e:jP gs kl (((i:Int),x.aN,gd.2.1,x.num),x.kind)=[((kl.length:Int),dw (fj gs x.aN) (fJ (x.aN,x.kind) 0 0 kl) 0 kl)]:=zB1 c5;rw[e,J_.out]
   have A9:=sD gd (fJ (x.aN,x.kind) 0 0 kl) [] kl;rw[List.nil_append] at A9;have A9:(bp 0 kl).filter (isP gd kl (fJ (x.aN,x.kind) 0 0 kl))=dw gd (fJ (x.aN,x.kind) 0 0 kl) 0 kl:=A9;rw[hru,←A9] at b8;rw[zB1 (show ¬((((i:Int),x.aN,gd.2.1,x.num),x.kind):Cl×Int).2=1 from c5),List.append_nil] at b_;have hmt:=I3.out.total (((i:Int),x.aN,gd.2.1,x.num),x.kind);have J0:=I3.out (x.aN,x.kind) c5;have hem:=xm 0 kl;clear hru A9 c5 I3;generalize fJ (x.aN,x.kind) 0 0 kl=fr at b8 J0;obtain ⟨hv,hb,J4,R5⟩:∃ (hv:Int) (hb:Bool),(if hb=true then hv else -1)=(fr:Int) - 1∧bg Tryz.prog H12 152 (.one (.i .i64 0)) (.one (.o (.mp MM))) (.agg [.o (.str x.aN),.i .i64 x.kind]) true=.val (.tup [(false,[.i .i64 hv]),(false,[.b hb])]) H12:=by
    have h1:=Np TC (z:=.one (.i .i64 0)) (k:=(x.aN,x.kind)) (ok:=true) rM;rw[J0] at h1;by_cases h0:fr=0
    ·rw[zB0 h0] at h1;exact ⟨0,false,by rw[h0];rfl,h1⟩
    rw[zB1 h0] at h1;exact ⟨(fr:Int) - 1,true,rfl,h1⟩
   clear J0;replace b8:Hd _:=b8;replace b_:Hd _:=b_;replace hmt:Hd _:=hmt;replace hem:Hd _:=hem;replace J4:Hd _:=J4;refine zW (qA tyF (qA R5 Bd)) ?_;refine R1.Vs (fun B5 H5=>H12=H5∧slot B5.tm 1=.one ((.o (.sl gid gg goff gs.length 3)))∧slot B5.tm 6=.one ((.o (.ptr (N+1) 0 0 2)))∧slot B5.tm 7=.one (ev)∧slot B5.tm 11=.one ((.o (.mp MM)))∧slot B5.tm 13=.one ((.o (.ptr M 0 0 8)))∧slot B5.tm 14=.one (.i .i64 (gi:Int))∧slot B5.tm 15=.one (.i .i64 (kl.length:Int))∧slot B5.tm 16=.one ((.i .i64 ((fr:Int) - 1)))∧slot B5.tm 36=.one ((.o (.sl id g off cs.length 8)))∧slot B5.tm 37=.one (.i .i64 (cs.length:Int))∧slot B5.tm 38=.one (.i .i64 (i:Int))∧B5.nt=165∧B5.dfr=[]) (fun K8 n1 n2 n3=>?_) ?_
   ·cases hb with
    | true=>
     have J4:hv=(fr:Int) - 1:=J4.out;subst J4;refine zW tyF ?_;refine n1.out _ _ ?_;exact ⟨rfl,zL⟩
    | false=>
     have hvb2:Hd (-1=(fr:Int) - 1):=J4.out;clear J4;refine zW tyF ?_;refine n1.out _ _ ?_;rw[←hvb2.out];exact ⟨rfl,zL⟩
   clear t1 t6 t7 t11 t13 t14 t15 t36 t37 t38 B0 C0 A12 R5 J4;rintro A12 H5 ⟨rfl,t1,t6,t7,t11,t13,t14,t15,t16,t36,t37,t38,B0,C0⟩;refine zR tyF ?_;refine R1.gen (fun A13 H13=>Gr H12 H13∧H12.nx<H13.nx∧H13.get H12.nx=some (.arr [.i .i64 (kl.length:Int),.o .nilS] 86 0 0)∧slot A13.tm 1=.one ((.o (.sl gid gg goff gs.length 3)))∧slot A13.tm 6=.one ((.o (.ptr (N+1) 0 0 2)))∧slot A13.tm 7=.one (ev)∧slot A13.tm 11=.one ((.o (.mp MM)))∧slot A13.tm 13=.one ((.o (.ptr M 0 0 8)))∧slot A13.tm 14=.one (.i .i64 (gi:Int))∧slot A13.tm 15=.one (.i .i64 (kl.length:Int))∧slot A13.tm 16=.one ((.i .i64 ((fr:Int) - 1)))∧slot A13.tm 18=.one ((.o (.ptr H12.nx 0 0 2)))∧slot A13.tm 36=.one ((.o (.sl id g off cs.length 8)))∧slot A13.tm 37=.one (.i .i64 (cs.length:Int))∧slot A13.tm 38=.one (.i .i64 (i:Int))∧A13.nt=165∧A13.dfr=[])
    ⟨((Fr.refl _).new _).mod _ (.inl (zA1 _)),zA6 _,ak rfl,zL⟩ ?_
   clear t1 t6 t7 t11 t13 t14 t15 t16 t36 t37 t38 B0 C0 A12;rintro A13 H13 ⟨g13,mR,rR,t1,t6,t7,t11,t13,t14,t15,t16,t18,t36,t37,t38,B0,C0⟩;obtain ⟨R,hR⟩:∃ R,R=H12.nx:=⟨_,rfl⟩;have hRl:H12.nx≤R:=by omega
   rw[←hR] at mR rR t18;clear hR;have hc12:=S4.out.c;have he12:=S4.out.e;have P9:=he12.gr g13;have le:=P9.len;have le2:=P9.lt;refine zW tyF ?_;refine R1.dp fun K9 w1 w2 w3 w4=>?_;refine R1.loop (fun z A H9=>∃ (k:Nat) (v5:AC) (r5:Option Nat),z=(bp 0 kl).length - k∧k≤(bp 0 kl).length∧Gr H12 H9∧R<H9.nx∧H9.get R=some (.arr [.i .i64 (kl.length:Int),v5] 86 0 0)∧eo H9 v5 3 1 (((bp 0 kl).take k).filter (isP gd kl fr)).length ((((bp 0 kl).take k).filter (isP gd kl fr)).flatMap sH) r5∧(∀ q,r5=some q→R<q) ∧
    slot A.tm 1=.one ((.o (.sl gid gg goff gs.length 3)))∧slot A.tm 6=.one ((.o (.ptr (N+1) 0 0 2)))∧slot A.tm 7=.one (ev)∧slot A.tm 11=.one ((.o (.mp MM)))∧slot A.tm 13=.one ((.o (.ptr M 0 0 8)))∧slot A.tm 14=.one (.i .i64 (gi:Int))∧slot A.tm 15=.one (.i .i64 (kl.length:Int))∧slot A.tm 16=.one ((.i .i64 ((fr:Int) - 1)))∧slot A.tm 18=.one ((.o (.ptr R 0 0 2)))∧slot A.tm 36=.one ((.o (.sl id g off cs.length 8)))∧slot A.tm 37=.one (.i .i64 (cs.length:Int))∧slot A.tm 38=.one (.i .i64 (i:Int))∧slot A.tm 120=.one (ev)∧slot A.tm 121=.one (.i .i64 ((bp 0 kl).length:Int))∧slot A.tm 122=.one (.i .i64 (k:Int))∧A.nt=165∧A.dfr=[]) ?_ (bp 0 kl).length
    ⟨0,.o .nilS,none,rfl,Nat.zero_le _,g13,mR,rR,.inl ⟨rfl,rfl,rfl,rfl⟩,fun q hq=>(by cases hq),zL⟩
   clear t1 t6 t7 t11 t13 t14 t15 t16 t18 t36 t37 t38 B0 C0 A13 w3 g13 mR rR le le2 P9 H13;rintro z A H9 ⟨k,v5,r5,rfl,hk,g9,mR,rR,V1,L0,t1,t6,t7,t11,t13,t14,t15,t16,t18,t36,t37,t38,t120,t121,t122,B0,C0⟩;obtain ⟨zi,N',T5⟩:=vI;replace N':Hd _:=N';replace T5:Hd _:=T5;refine zW tyF ?_;refine zI tyF (fun hc=>?_) (fun hc=>?_)
   ·have hkl2:k<(bp 0 kl).length:=by omega
    obtain ⟨n0,en⟩:∃ n0,(bp 0 kl)[k]?=some n0:=⟨_,zB4 hkl2⟩;obtain ⟨m,y,D4,ey⟩:=hem.out n0 (List.mem_of_getElem? en);rw[Nat.zero_add] at D4;subst D4;have hmkl:=(List.getElem?_eq_some_iff.1 ey).1;have hm2:m<kl.length+1:=by omega
    have Q1:=zC0 k (by omega);obtain ⟨eid,eg,eoff,ecells,hev',heid,hegr,heat⟩:=(he12.gr g9).open (by omega);subst hev';obtain ⟨y1,y2⟩:=heat k _ en;rw[Nat.mul_one] at y1 y2;obtain ⟨cid,cg,coff,ccells,hcv',hcid,hcgr,hcat⟩:=(hc12.gr g9).open (by rw[List.length_map,List.length_append];exact Nat.succ_pos _);have hcln:((kl++[(((i:Int),x.aN,gd.2.1,x.num),x.kind)]).map Prod.fst).length=kl.length+1:=by rw[List.length_map,List.length_append];rfl
    rw[hcln] at hcv';subst hcv';obtain ⟨p5,q5,hy⟩:=hcat m y.1 (by rw[List.getElem?_map,List.getElem?_append_left hmkl,ey];rfl);have y3:=hy.f2;have y4:=hy.le2;have F':((bp 0 kl).take (k+1)).filter (isP gd kl fr)=((bp 0 kl).take k).filter (isP gd kl fr)++(if (decide ((fr:Int) - 1<(m:Int))&&eF gd y.1.2.1)=true then [(m:Int)] else []):=by
     have hp:isP gd kl fr (m:Int)=(decide ((fr:Int) - 1<(m:Int))&&eF gd y.1.2.1):=by
      unfold isP;rw[Int.toNat_natCast,ey];rfl
     rw[HR en,List.filter_append,List.filter_cons,hp];rfl
    have Q6:(((bp 0 kl).take k).filter (isP gd kl fr)).length≤64:=by
     have h1:=List.length_filter_le (isP gd kl fr) ((bp 0 kl).take k);rw[List.length_take] at h1;omega
    have rP9:=(g9.get _ nP zB2).trans rP;have nP9:=zA0 nP g9.nx;have hgid9:gid<H9.nx:=zA0 V7 (g12.gr g9).nx;have hggr9:rowOf (H9.get gid) gg=some gcells:=by rw[(g12.gr g9).get _ V7 zB2];exact W7.out
    have hgu9:=k_.out.gr (g12.gr g9);clear heat hcat hy en ey hcln;replace F':Hd _:=F';have V3:k+1≤(bp 0 kl).length:=by omega
    refine zW tyF ?_;refine R1.dp fun K8 u1 u2 u3 u4=>?_;refine zR (qA tyF (qA (ixC hkl2) Nat.mul_one)) ?_;by_cases d1:(fr:Int) - 1<(m:Int)
    ·refine zG (qA tyF (qA (ixC x8) (qA (ixC hm2) xI))) fun K10 hK10=>?_;refine WE.con (MB H9 gd gu y.1.2.1 hgu9 hBg.out) fun w10 H10 g10 p7=>?_;subst p7;have rR10:=(g10.get _ mR zB2).trans rR;have mR10:=zA0 mR g10.nx;have Z5:=V1.fr g10 fun _ _ h=>h;have g910:=g9.gr g10;have F8:=F'.out;clear F' rR V1 hgu9 hggr9 hgid9 rP9 nP9 hcid hcgr heid hegr y1 y2 y3 y4;cases p6:eF gd y.1.2.1 with
     | true=>
      rw[decide_eq_true d1,p6] at F8;have i':((bp 0 kl).take (k+1)).filter (isP gd kl fr)=((bp 0 kl).take k).filter (isP gd kl fr)++[(m:Int)]:=F8;obtain ⟨hlt6,v6,H11,r6,happ6,b7,N5,O'⟩:=fm di qR N'.out T5.out (by decide) Z5 [.i .i64 (m:Int)] rfl (by omega);have rR11:=(N5.get _ mR10 fun e=>by have:=L0 _ e;omega).trans rR10;have mR11:=zA0 mR10 N5.nx;have g11:Gr H12 (H11.mod R (.arr [.i .i64 (kl.length:Int),v6] 86 0 0)):=(g910.then N5 fun q hq=>.inl (by have:=L0 q hq;omega)).mod _ (.inl hRl);have hR6:R<r6:=by
       rcases O' with e|e
       ·exact L0 _ e
       omega
      have F5:=b7.fr (H':=H11.mod R (.arr [.i .i64 (kl.length:Int),v6] 86 0 0)) (X:=fun i=>i=R) ((Fr.refl _).mod _ (.inr rfl)) fun i hi h=>by cases hi;omega
      have hpe:eo (H11.mod R (.arr [.i .i64 (kl.length:Int),v6] 86 0 0)) v6 3 1 (((bp 0 kl).take (k+1)).filter (isP gd kl fr)).length ((((bp 0 kl).take (k+1)).filter (isP gd kl fr)).flatMap sH) (some r6):=by
       rw[i',List.length_append,List.flatMap_append];exact F5
      have mR12:R<(H11.mod R (.arr [.i .i64 (kl.length:Int),v6] 86 0 0)).nx:=mR11;clear F5 b7 F8 i' O' N5 Z5 g910 d1 g10 p6;replace hpe:Hd _:=hpe;replace g11:Hd _:=g11;refine zK tyF ?_;refine zG (qA tyF (qA jQ happ6)) fun K11 hK11=>?_;refine ⟨hlt6,?_⟩;refine zK tyF ?_;refine u1.out _ _ ?_;refine zW tyF ?_;exact ⟨(bp 0 kl).length - (k+1),by omega,k+1,v6,some r6,rfl,V3,g11.out,mR12,ak rfl,hpe.out,fun q hq=>by cases hq;exact hR6,zL⟩
     | false=>
      rw[p6,Bool.and_false,zB1 (by decide),List.append_nil] at F8;rw[←F8] at Z5;clear F8 d1 p6 g10;refine zK tyF ?_;refine u1.out _ _ ?_;refine zW tyF ?_;exact ⟨(bp 0 kl).length - (k+1),by omega,k+1,v5,r5,rfl,V3,g910,mR10,rR10,Z5,L0,zL⟩
    have F8:=F'.out;rw[decide_eq_false d1,Bool.false_and,zB1 (by decide),List.append_nil] at F8;rw[←F8] at V1;clear F8 F';refine zW (qA tyF (qA (ixC x8) (qA (ixC hm2) xI))) ?_;refine u1.out _ _ ?_;refine zW tyF ?_;exact ⟨(bp 0 kl).length - (k+1),by omega,k+1,v5,r5,rfl,V3,g9,mR,rR,V1,L0,zL⟩
   have hke:k=(bp 0 kl).length:=by omega
   rw[hke,List.take_length] at V1;have u6:=eo.ids V1;have v_:SlI H9 v5 ((bp 0 kl).filter (isP gd kl fr)):=V1.slc;obtain ⟨hltR,rv',H14,happR,C9,a_⟩:=S4.out.Vb g9 (fun j h=>by have:=g9.nx;omega) (c0:=[.i .i64 (kl.length:Int),v5]) (x:=((kl.length:Int),(bp 0 kl).filter (isP gd kl fr))) rfl ⟨v5,rfl,v_⟩ (fun id hid=>by
    rw[BD] at hid;have h1:=L0 id (u6 id hid);omega) (by omega)
   have rP9:=(g9.get _ nP zB2).trans rP;have nP9:=zA0 nP g9.nx;have rM9:=(g9.get _ nM zB2).trans rM;have nM9:=zA0 nM g9.nx;have rC9:=(g9.get _ mC zB2).trans rC;have mC9:=zA0 mC g9.nx;have rM14:=(a_.get _ nM9 fun h=>h (.inl hMB)).trans rM9;have rC14:=(a_.get _ mC9 fun h=>h (.inr rfl)).trans rC9;have rP14:=(a_.get _ nP9 fun h=>h (.inl (by omega))).trans rP9;have nP14:=zA0 nP9 a_.nx;have nM14:=zA0 nM9 a_.nx;have mC14:=zA0 mC9 a_.nx;have nB14:B≤H14.nx:=by have:=a_.nx;omega
   have g14:Gr H H14:=(g12.gr g9).then a_ fun q hq=>.inl (by omega);rw[←b8.out,←b_.out] at C9;clear V1 u6 v_ a_ S4 b8 b_ hem hc12 he12 rM rC hell hrll;replace C9:Hd _:=C9;refine zW tyF ?_;refine w2.out _ _ ?_;refine zG (qA tyF (qA jQ happR)) fun K10 hK10=>?_;refine ⟨hltR,?_⟩;refine zE tyF ?_;have rM15:(H14.mod (N+1) (.arr [cv',rv'] 37 0 0)).get MM=some (qQ kvT ml):=(aq (by omega)).trans rM14;have rC15:=(aq (o:=.arr [cv',rv'] 37 0 0) (show M≠N+1 by omega)).trans rC14;have hup:=Rp TC (k:=(x.aN,x.kind)) (x:=.i .i64 (kl.length:Int)) rM15;have nM15:MM<(H14.mod (N+1) (.arr [cv',rv'] 37 0 0)).nx:=nM14;have rP16:((H14.mod (N+1) (.arr [cv',rv'] 37 0 0)).mod MM (qQ kvT (iG ml (x.aN,x.kind) (.i .i64 (kl.length:Int))))).get (N+1)=some (.arr [cv',rv'] 37 0 0):=(aq (by omega)).trans (ak rfl);have g16:Gr H ((H14.mod (N+1) (.arr [cv',rv'] 37 0 0)).mod MM (qQ kvT (iG ml (x.aN,x.kind) (.i .i64 (kl.length:Int))))):=(g14.mod _ (.inl (by omega))).mod _ (.inl (by omega));have Q9:=(C9.out.fr (Y:=fun j=>j=N+1) (H':=H14.mod (N+1) (.arr [cv',rv'] 37 0 0)) ((Fr.refl _).mod _ (.inr rfl)) fun j h=>.inl (.inl (by omega))).fr (Y:=fun j=>j=MM) (H':=(H14.mod (N+1) (.arr [cv',rv'] 37 0 0)).mod MM (qQ kvT (iG ml (x.aN,x.kind) (.i .i64 (kl.length:Int))))) ((Fr.refl _).mod _ (.inr rfl)) fun j h=>.inl (.inl (by omega));clear C9;replace Q9:Hd _:=Q9;replace g16:Hd _:=g16;replace rP16:Hd _:=rP16;refine zW (qA tyF hup) ?_;exact (go.out _ _ cv' rv' ev _ _ zL V_ g16.out nB14 rP16.out (ak rfl) hmt.out E8.out Q9.out).2
  clear T2 go badE;by_cases c5:x.kind=1
  ·have e3:(x.kind==1)=true:=beq_iff_eq.2 c5;by_cases c6:gd.2.2=[]
   ·have e4:¬(0:Int)<(gd.2.2.length:Int):=by rw[c6];decide
    have e6:decide (x.kind=1∧gd.2.2≠[])=false:=decide_eq_false fun h=>h.2 c6;replace e6:Hd _:=e6;clear c5 c6;refine zS (qA tyF (ixC x8)) ?_;exact key.out _ _ zL e6.out
   have e4:(0:Int)<(gd.2.2.length:Int):=by
    have:gd.2.2.length≠0:=fun h=>c6 (List.eq_nil_of_length_eq_zero h);omega
   have e6:decide (x.kind=1∧gd.2.2≠[])=true:=decide_eq_true ⟨c5,c6⟩;replace e6:Hd _:=e6;clear c5 c6;refine zS (qA tyF (ixC x8)) ?_;exact key.out _ _ zL e6.out
  have e3:(x.kind==1)=false:=zB5 c5;have e6:decide (x.kind=1∧gd.2.2≠[])=false:=decide_eq_false fun h=>c5 h.1;replace e6:Hd _:=e6;clear c5;refine zS (qA tyF (ixC x8)) ?_;exact key.out _ _ zL e6.out
 have S1:i=cs.length:=by omega
 subst S1;have hn:=hr.out;rw[List.drop_length,bQ] at hn;have he:e0=0:=by rw[hee.out,←hn]
 have F_:=Y2.out he;rw[←hn] at F_;have F_:eG o gs (nm,cs)=kl:=F_;have hbs9:=S4.out.fr (Y:=fun i=>i=N+1) (H':=H6.mod (N+1) (.arr [cv,rv] 37 0 0)) ((Fr.refl _).mod _ (.inr rfl)) fun i h=>.inl (by omega);have b1:dn (fun j=>j<H.nx) (H6.mod (N+1) (.arr [cv,rv] 37 0 0)) p0.1 p0.2 q0 cv rv ev:=by
  rw[←R6.out,←x_.out];unfold cw;rw[F_];exact hbs9.less fun j h=>.inl (by omega)
 have g9:Gr H (H6.mod (N+1) (.arr [cv,rv] 37 0 0)):=g6.mod _ (.inl (by omega));have hev:ltV (.one ev) H6.nx:=S4.out.e.lt;replace b1:Hd _:=b1;clear S4 hbs9 F_ hn hr bad hee Y2 hv6;subst he;refine zW tyF ?_;refine k2.out _ _ ?_;refine zW tyF ?_;exact fin _ _ _ _ _ (N+1) (by simp only[aa,Nat.reduceEqDiff,reduceIte,t6]) (by simp only[aa,Nat.reduceEqDiff,reduceIte,t7]) qp (by simp only[ai,C0];rfl) (ak rfl) g9 b1.out
theorem Dd:al Tryz.prog 9=true:=by kernel_rfl
theorem tP (H:Hp) (k gv v:AC) (o:Option (List Lad)) (gs:List Gd) (nm:List UInt8) (cs:List Cs) (hk:bP H k o) (S2:∀ ls,o=some ls→∀ x∈ls,x.2.length≤1000000) (hg:SlG H gv gs) (hv:ca H v cs) (hB:TbB cs) (hO:∀ x∈gs,x.2.2.length≤4611686018427387904):
  Con E2 9 [.one k,.one gv,.agg [.o (.str nm),v]] H (fun _=>False) fun r H'=>∃ a b,r=.tup [(true,[a,b]),(false,[.i .i64 (gE o gs (nm,cs))])]∧iu H' a (cw o gs (nm,cs)).1∧kJ H' b (cw o gs (nm,cs)).2:=by
 refine Con.of rfl fun lg=>?_;have hk:bP ⟨H.t,H.nx,lg⟩ k o:=bP.same (H:=H) rfl rfl hk;have hg:SlG ⟨H.t,H.nx,lg⟩ gv gs:=hg;have hv:ca ⟨H.t,H.nx,lg⟩ v cs:=hv;generalize (⟨H.t,H.nx,lg⟩:Hp)=H at hk hg hv ⊢;refine C1.body (E:=E2) (nt:=21) (res:=[.cell 6 37,.tmp 7]) Tryz.func9 rfl rfl rfl rfl rfl fun tm A0=>?_;have h0:=A0 0 _ rfl;have h1:=A0 1 _ rfl;have h2:=A0 2 _ rfl;clear A0;generalize R6:cw o gs (nm,cs)=p0;generalize N0:gE o gs (nm,cs)=e0;generalize x_:bp 0 (eG o gs (nm,cs))=q0;have fin:∀ (a b:AC) (A:ab) (H9:Hp) (M:Nat),slot A.tm 6=.one (.o (.ptr M 0 0 2))→slot A.tm 7=.one (.i .i64 e0)→closeAll H9 A.dfr=some H9→H9.get M=some (.arr [a,b] 37 0 0)→Gr H H9→iu H9 a p0.1→kJ H9 b p0.2 →
   ∃ w H4,aC E2 [.cell 6 37,.tmp 7] (.ret,A,H9)=.ok [(w,H4)]∧Gr H H4∧∀ lg:List Nat,∃ a b,w=.tup [(true,[a,b]),(false,[.i .i64 e0])]∧iu ⟨H4.t,H4.nx,lg⟩ a p0.1∧kJ ⟨H4.t,H4.nx,lg⟩ b p0.2:=fun a b A H9 M s6 s7 hd r1 R0 h1 h2=>
  ⟨_,H9,cE (.inr rfl) hd (jD ia s6 (by rw[r1];exact yK) (zA1 _) rfl (qC s7 tl)),R0,fun lg=>⟨a,b,rfl,h1,h2⟩⟩
 have lv:=hv.lt;replace R6:Hd _:=R6;replace N0:Hd _:=N0;replace x_:Hd _:=x_;refine zG tyF fun K hK=>?_;refine hK.out _ _ ?_;refine R1.gen (fun A1 H1=>Gr H H1∧H.nx+1<H1.nx∧H1.get H.nx=some (.arr [.o (.str nm),v] 26 0 0)∧H1.get (H.nx+1)=some (.arr [.o .nilS,.o .nilS] 37 0 0)∧slot A1.tm 0=.one (k)∧slot A1.tm 1=.one (gv)∧slot A1.tm 5=.one ((.o (.ptr H.nx 0 0 2)))∧slot A1.tm 6=.one ((.o (.ptr (H.nx+1) 0 0 2)))∧A1.nt=21∧A1.dfr=[])
  ⟨((Fr.refl _).new _).new _,by show H.nx+1<H.nx+1+1;omega,by rw[aM (by show H.nx<H.nx+1;omega)];exact az rfl,az rfl,zL⟩ ?_
 clear h0 h1 h2 tm hK K lv;rintro A1 H1 ⟨g1,n1,r0,r1,t0,t1,t5,t6,B0,C0⟩;obtain ⟨N,hN⟩:∃ N,N=H.nx:=⟨_,rfl⟩;rw[←hN] at n1 r0 r1 t5 t6;have hNl:H.nx≤N:=Nat.le_of_eq hN.symm;replace hN:Hd _:=hN;have n0:N<H1.nx:=by omega
 have V3:=hk.gr g1;have F4:=hg.gr g1;have Y1:=hv.gr g1;refine zG (qA tyF MP) fun K hK=>?_;refine WE.con (LI H1 k gv v o gs nm cs V3 S2 F4 Y1 hB hO) fun w2 H2 g2 ⟨a,b,ev,C4,S4⟩=>?_;rw[N0.out] at C4;rw[R6.out,x_.out] at S4;subst C4;have r0:=(g2.get _ n0 zB2).trans r0;have n0:=zA0 n0 g2.nx;have r1:=(g2.get _ n1 zB2).trans r1;have n1:=zA0 n1 g2.nx;have g2:=g1.gr g2;have o_:=S4.fr (Y:=fun j=>j=N+1) (H':=((H2.new (.arr [.o .nilS,.o .nilS] 37 0 0)).mod H2.nx (.arr [a,b] 37 0 0)).mod (N+1) (.arr [a,b] 37 0 0)) ((((Fr.refl H2).new _).mod _ (.inl (zA1 _))).mod _ (.inr rfl)) fun j h=>.inl (by omega);have la:=S4.c.lt;have lb:=S4.r.lt;have le:=S4.e.lt;have g9:Gr H (((H2.new (.arr [.o .nilS,.o .nilS] 37 0 0)).mod H2.nx (.arr [a,b] 37 0 0)).mod (N+1) (.arr [a,b] 37 0 0)):=((g2.new _).mod _ (.inl (by have:=g2.nx;omega))).mod _ (.inl (by omega));clear S4;replace o_:Hd _:=o_;replace g9:Hd _:=g9;refine zK tyF ?_;exact fin _ _ _ _ (N+1) (by simp only[aa,Nat.reduceEqDiff,reduceIte,t6]) qp (by simp only[ai,C0];rfl) (ak rfl) g9.out o_.out.c o_.out.r
def wrN (us:List Pr) (cs:List Int):List Gp:=(((us.zip cs).filter fun x=>decide (0<x.2)).map fun x=>(x.2,x.1.1,false)).reverse
def zr (cs:List Int):Bool:=cs.any fun c=>decide (99<c)
def iO (nm:List UInt8) (us:List Pr) (n:Int):List Gp×Int:=
 if aR nm us≠0 then ([],aR nm us) else if 1≤n∧n≤1099511627776 then (if zr (aL us n)=true then ([],21) else (wrN us (aL us n),0)) else ([],8)
theorem gz (u:Pr) (us:List Pr) (c:Int) (cs:List Int):wrN (u::us) (c::cs)=wrN us cs++(if 0<c then [(c,u.1,false)] else []):=by
 unfold wrN;rw[List.zip_cons_cons,List.filter_cons];by_cases h:0<c
 ·have h2:decide (0<c)=true:=decide_eq_true h;rw[zB0 h];show (List.map _ (if decide (0<c)=true then _ else _)).reverse=_;rw[zB0 h2,List.map_cons,List.reverse_cons]
 have h2:¬decide (0<c)=true:=by simp[h]
 rw[zB1 h,List.append_nil];show (List.map _ (if decide (0<c)=true then _ else _)).reverse=_;rw[zB1 h2]
theorem Td:wrN [] []=[]:=rfl
theorem Uq {us:List Pr} {cs:List Int} {i:Nat} {u:Pr} {c:Int} (hu:us[i]?=some u) (hc:cs[i]?=some c):wrN (us.drop i) (cs.drop i)=wrN (us.drop (i+1)) (cs.drop (i+1))++(if 0<c then [(c,u.1,false)] else []):=by
 obtain ⟨h1,h2⟩:=List.getElem?_eq_some_iff.1 hu;obtain ⟨h3,h4⟩:=List.getElem?_eq_some_iff.1 hc;rw[List.drop_eq_getElem_cons h1,List.drop_eq_getElem_cons h3,gz,h2,h4]
theorem tc:∀ (us:List Pr) (cs:List Int),(wrN us cs).length≤us.length
 | [],cs=>by simp[wrN]
 | u::us,[]=>by simp[wrN]
 | u::us,c::cs=>by
  have:=tc us cs;rw[gz,List.length_append,List.length_cons];split
  ·rw[List.length_singleton];omega
  rw[List.length_nil];omega
theorem OL:∀ (us:List Pr) (cs:List Int),us.length=cs.length→wrN us cs=[]→∀ c∈cs,¬0<c
 | _,[],_,_=>fun _ h=>absurd h List.not_mem_nil
 | [],_::_,h,_=>by cases h
 | u::us,d::cs,hl,h=>fun c hc=>by
  rw[gz,List.append_eq_nil_iff] at h;rcases List.mem_cons.1 hc with rfl|hc
  ·intro hp;rw[zB0 hp] at h;exact absurd h.2 (by simp)
  exact OL us cs (Nat.succ.inj hl) h.1 c hc
theorem yX:∀ (us:List Pr) (n:Int),us≠[]→1≤n→(∀ x∈us,1≤x.2)→∃ c∈aL us n,0<c
 | [],_,h,_,_=>absurd rfl h
 | [x],n,_,hn,_=>⟨n,List.mem_singleton.2 rfl,by omega⟩
 | x::y::l,n,_,hn,hf=>by
  have hy:=hf y (List.mem_cons_of_mem _ (List.mem_cons_self ..));have h1:=Int.emod_nonneg n (show y.2≠0 by omega);rw[aL];by_cases h:0<n % y.2
  ·exact ⟨_,List.mem_cons_self ..,h⟩
  have h2:=Int.emod_add_mul_ediv n y.2;have h3:n % y.2=0:=by omega
  have h4:1≤n / y.2:=by
   rcases Int.lt_or_le 0 (n / y.2) with h5|h5
   ·omega
   have:=Int.mul_nonpos_of_nonneg_of_nonpos (show 0≤y.2 by omega) h5;omega
  obtain ⟨c,hc,hp⟩:=yX (y::l) (n / y.2) (by simp) h4 fun z hz=>hf z (List.mem_cons_of_mem _ hz);exact ⟨c,List.mem_cons_of_mem _ hc,hp⟩
theorem zy:∀ (us:List Pr) (n:Int) (i:Nat),(∀ x∈us,1≤x.2∧x.2≤60)→i+1<us.length→(aL us n).getD i 0≤99
 | [],_,_,_,h=>by simp at h
 | [x],_,i,_,h=>by simp at h
 | x::y::l,n,0,hf,_=>by
  have hy:=hf y (List.mem_cons_of_mem _ (List.mem_cons_self ..));rw[aL];show n % y.2≤99;have:=Int.emod_lt_of_pos n (show 0<y.2 by omega);omega
 | x::y::l,n,i+1,hf,h=>by
  rw[aL,List.getD_cons_succ];exact zy (y::l) (n / y.2) i (fun z hz=>hf z (List.mem_cons_of_mem _ hz)) (by simpa using h)
theorem Jn:∀ (us:List Pr) (cs:List Int),us.length=cs.length→(∀ i,i+1<us.length→cs.getD i 0≤99)→((wrN us cs).head?.any fun g=>decide (99<g.1))=zr cs
 | [],[],_,_=>rfl
 | [],_::_,h,_=>by cases h
 | _::_,[],h,_=>by cases h
 | [x],[c],_,_=>by
  rw[gz,Td,List.nil_append];show _=(decide (99<c)||false);rw[Bool.or_false];by_cases h:0<c
  ·rw[zB0 h];rfl
  rw[zB1 h];exact (decide_eq_false (by omega)).symm
 | [x],_::_::_,h,_=>by cases h
 | _::_::_,[_],h,_=>by cases h
 | x::y::us,c::d::cs,hl,hlow=>by
  have ih:=Jn (y::us) (d::cs) (Nat.succ.inj hl) fun i hi=>by
   have:=hlow (i+1) (by rw[List.length_cons];omega);rwa [List.getD_cons_succ] at this
  have h0:c≤99:=hlow 0 (by simp);have e1:zr (c::d::cs)=zr (d::cs):=by
   show (decide (99<c)||_)=_;rw[decide_eq_false (by omega)];rfl
  rw[gz,e1,←ih];cases hw:wrN (y::us) (d::cs) with
  | cons g l=>rfl
  | nil=>
   rw[List.nil_append];by_cases h:0<c
   ·rw[zB0 h];exact decide_eq_false (by show ¬99<c;omega)
   rw[zB1 h]
theorem Ev {nm:List UInt8} {us:List Pr} {n:Int} (Q2:aR nm us=0) (hn:1≤n):∃ g l,wrN us (aL us n)=g::l∧decide (99<g.1)=zr (aL us n):=by
 obtain ⟨h1,h2,h3⟩:=hH Q2;obtain ⟨x,l,hx,_⟩:=kG Q2;have h4:=Jn us (aL us n) (dB us n).symm fun i hi=>zy us n i h3 hi;cases hw:wrN us (aL us n) with
 | nil=>
  obtain ⟨c,hc,hp⟩:=yX us n (by rw[hx];simp) hn fun x hx=>(h3 x hx).1;exact absurd hp (OL us _ (dB us n).symm hw c hc)
 | cons g l=>
  rw[hw] at h4;exact ⟨g,l,rfl,h4⟩
theorem HI:al Tryz.prog 111=true:=by kernel_rfl
theorem ML:al Tryz.prog 110=true:=by kernel_rfl
theorem Dt (H:Hp) (nm:List UInt8) (u:AC) (us:List Pr) (n:Int) (hu:SlP H u us) (Q2:aR nm us=0) (D4:0≤n) (hn:n≤1099511627776):
  Con E2 111 [.agg [.o (.str nm),u],.one (.i .i64 n)] H (fun _=>False) fun r H'=>∃ c,r=.one c∧aO H' c (wrN us (aL us n))∧∀ id∈(AV.one c).ids,H.nx≤id:=by
 refine Con.of rfl fun lg=>?_;have hu:SlP ⟨H.t,H.nx,lg⟩ u us:=hu;have e0:H.nx=(⟨H.t,H.nx,lg⟩:Hp).nx:=rfl;rw[e0];clear e0;generalize (⟨H.t,H.nx,lg⟩:Hp)=H at hu ⊢;refine C1.body (E:=E2) (nt:=42) (res:=[.tmp 4]) Tryz.func111 rfl rfl rfl rfl rfl fun tm A0=>?_;have h0:=A0 0 _ rfl;have h1:=A0 1 _ rfl;clear A0;have hs:rm nm us n=(aL us n,0):=by unfold rm;rw[zB1 (fun h=>h Q2),zB0 ⟨D4,hn⟩]
 obtain ⟨hul,_,hf⟩:=hH Q2;obtain ⟨x0,l0,U3,_⟩:=kG Q2;have B2:1≤us.length:=by rw[U3,List.length_cons];omega
 have V0:=dB us n;generalize aL us n=cs at hs V0 ⊢;generalize hw:wrN us cs=r0;have fin:∀ (c:AC) (A:ab) (H3:Hp),slot A.tm 4=.one c→A.dfr=[]→Gr H H3→aO H3 c r0→(∀ id∈(AV.one c).ids,H.nx≤id)→∃ w H4,aC E2 [.tmp 4] (.ret,A,H3)=.ok [(w,H4)]∧Gr H H4∧∀ lg':List Nat,∃ c,w=.one c∧aO ⟨H4.t,H4.nx,lg'⟩ c r0∧∀ id∈(AV.one c).ids,H.nx≤id:=fun c A H3 h1 hd hg h2 h3=>⟨_,H3,aj c (.inr rfl) hd h1,hg,fun _=>⟨c,rfl,h2,h3⟩⟩;obtain ⟨z,hz,M1⟩:=MQ;replace hz:Hd _:=hz;replace M1:Hd _:=M1;replace hw:Hd _:=hw;replace Q2:Hd _:=Q2;clear U3 hf;refine zG tyF fun K hK=>?_;refine hK.out _ _ ?_;refine R1.gen (fun A1 H1=>Gr H H1∧H.nx<H1.nx∧H1.get H.nx=some (.arr [.o (.str nm),u] 97 0 0)∧slot A1.tm 1=.one (.i .i64 (n:Int))∧slot A1.tm 2=.one ((.o (.ptr H.nx 0 0 2)))∧A1.nt=42∧A1.dfr=[]) ⟨(Fr.refl _).new _,zA6 _,az rfl,zL⟩ ?_;rintro A1 H1 ⟨g1,m1,rx,t1,t2,B0,C0⟩;clear h0 h1 tm hK K;obtain ⟨N,hN⟩:∃ N,N=H.nx:=⟨_,rfl⟩;rw[←hN] at m1 rx t2;clear hN;have hu:=hu.gr g1;refine zG (qA tyF Qa) fun K hK=>?_;refine WE.con (Hg H1 nm u us n hu) fun w H2 g2 ⟨c,hq,hc,c_⟩=>?_;rw[hs] at hq hc;have hc:SlI H2 c cs:=hc;subst hq;clear hs c_;have rx:=(g2.get _ m1 zB2).trans rx;have m1:=zA0 m1 g2.nx;have hu:=hu.gr g2;have g2:=g1.gr g2;clear g1;have l1:=hc.len;have hw0:IntKind.i64.wrap ((cs.length:Int) - 1)=(cs.length:Int) - 1:=bx (by omega) (by omega);have lc:=hc.lt;replace V0:Hd (cs.length=us.length):=V0;refine zK tyF ?_;refine R1.dp fun K k1 k2 k3 k4=>?_;refine R1.loop (fun m A H5=>∃ (i:Nat) (v:AC) (r:Option Nat),m=i∧i≤us.length∧Gr H2 H5∧eo H5 v 181 3 (wrN (us.drop i) (cs.drop i)).length ((wrN (us.drop i) (cs.drop i)).flatMap gpC) r∧(∀ q,r=some q→H2.nx≤q)∧slot A.tm 2=.one ((.o (.ptr N 0 0 2)))∧slot A.tm 5=.one (c)∧slot A.tm 7=.one (v)∧slot A.tm 8=.one (.i .i64 (((i:Int) - 1):Int))∧A.nt=42∧A.dfr=[]) ?_ us.length
  ⟨us.length,.o .nilS,none,rfl,zA1 _,Fr.refl _,by rw[List.drop_length];exact .inl ⟨rfl,rfl,rfl,rfl⟩,fun q hq=>(by cases hq),by rw[←V0.out];exact zL⟩
 clear t1 t2 B0 C0 A1 hw0 k3 l1;rintro m A H5 ⟨i,v,r,hmi,hi,g5,V1,L0,t2,t5,t7,t8,B0,C0⟩;have rx5:=(g5.get _ m1 zB2).trans rx;have m5:=zA0 m1 g5.nx;refine zW tyF ?_;refine zI tyF (fun hq=>?_) (fun hq=>?_)
 ·obtain ⟨j,rfl⟩:∃ j,i=j+1:=⟨i - 1,by omega⟩;have D0:j<us.length:=by omega
  have h_:j<cs.length:=by rw[V0.out];omega
  have ew:cs[j]?=some cs[j]:=zB4 h_;have ex:us[j]?=some us[j]:=zB4 D0;have I1:=Uq ex ew;generalize cs[j]=w at ew I1;generalize us[j]=x at ex I1;obtain ⟨id,g,off,cells,rfl,hid,R0,J0⟩:=(hc.gr g5).open (by omega);obtain ⟨y1,y2⟩:=J0 j w ew;rw[Nat.mul_one] at y1 y2;obtain ⟨id2,gg2,off2,cells2,rfl,hid2,hgr2,hat2⟩:=(hu.gr g5).open (by omega);have hx:=hat2 j x ex;have x1:=hx.fst;have x2:=hx.le1;have ej:(((j+1:Nat):Int) - 1)=(j:Int):=by omega
  have ej2:IntKind.i64.wrap ((j:Int) - 1)=(j:Int) - 1:=bx (by omega) (by omega);have B_:=tc (us.drop (j+1)) (cs.drop (j+1));rw[List.length_drop] at B_;rw[ej] at t8;clear J0 hat2 hx hq ex ew;replace I1:Hd _:=I1;refine zW tyF ?_;refine R1.dp fun K2 q1 q2 q3 q4=>?_;by_cases hp:0<w
  ·have I1:=I1.out;rw[zB0 hp] at I1;obtain ⟨M4,v6,H6,r6,L1,b7,N5,O'⟩:=fm eS MZ hz.out M1.out (by decide) V1 [.i .i64 w,.o (.str x.1),.b false] rfl (by omega);have g6:Gr H2 H6:=g5.then N5 fun q hq=>.inl (L0 q hq);have G9:eo H6 v6 181 3 (wrN (us.drop j) (cs.drop j)).length ((wrN (us.drop j) (cs.drop j)).flatMap gpC) (some r6):=by
    rw[I1,List.length_append,List.flatMap_append];exact b7
   have D9:∀ q,some r6=some q→H2.nx≤q:=fun q hq=>by
    cases hq
    rcases O' with e|e
    ·exact L0 _ e
    exact zA2 g5.nx e
   clear b7 N5 O' I1 V1 L0;replace G9:Hd _:=G9;replace D9:Hd _:=D9;refine zW (qA tyF (qA (ixC h_) Nat.mul_one)) ?_;refine zG (qA tyF (qA (ixC h_) (qA (ixC D0) (qA Nat.mul_one (qA jQ L1))))) fun K3 T4=>?_;refine ⟨M4,?_⟩;refine zK tyF ?_;refine q1.out _ _ ?_;refine zW tyF ?_;exact ⟨j,by omega,j,v6,some r6,rfl,by omega,g6,G9.out,D9.out,zL⟩
  have I1:=I1.out;rw[zB1 hp,List.append_nil] at I1;rw[←I1] at V1;clear I1;refine zW (qA tyF (qA (ixC h_) Nat.mul_one)) ?_;refine q1.out _ _ ?_;refine zW tyF ?_;exact ⟨j,by omega,j,v,r,rfl,by omega,g5,V1,L0,zL⟩
 have S1:i=0:=by omega
 subst S1;rw[List.drop_zero,List.drop_zero,hw.out] at V1;have lv:=V1.lt;refine zW tyF ?_;refine k2.out _ _ ?_;refine zW tyF ?_;exact fin v _ _ qp qe (g2.gr g5) V1.slc fun id hid=>by
  have:=L0 id (Gz V1 id hid);have:=g2.nx;omega
theorem Pn:al Tryz.prog 57=true:=by kernel_rfl
theorem ix0 {len:Nat} (h:0<len):∀ (H:Hp) (id g off sz:Nat),bL H sz (.one (.o (.sl id g off len sz))) (.one (.i .i64 0))=.val (.one (.o (.ptr id g off sz))) H:=fun H id g off sz=>by
 have:=nz (H:=H) (id:=id) (g:=g) (off:=off) (sz:=sz) (Int.le_refl 0) (by omega:(0:Int)<len);rw[this,Int.toNat_zero,Nat.zero_mul,Nat.add_zero]
def vR (nm:List UInt8) (us:List Pr) (n:Int):Int:=if aR nm us≠0 then aR nm us else if 1≤n∧n≤1099511627776 then 0 else 8
theorem Ia (H:Hp) (nm:List UInt8) (u:AC) (us:List Pr) (n:Int) (hu:SlP H u us):
  Con E2 110 [.agg [.o (.str nm),u],.one (.i .i64 n)] H (fun _=>False) fun r _=>r=.one (.i .i64 (vR nm us n)):=by
 refine Con.of rfl fun lg=>?_;have hu:SlP ⟨H.t,H.nx,lg⟩ u us:=hu;generalize (⟨H.t,H.nx,lg⟩:Hp)=H at hu ⊢;refine C1.body (E:=E2) (nt:=17) (res:=[.tmp 4]) Tryz.func110 rfl rfl rfl rfl rfl fun tm A0=>?_;have h0:=A0 0 _ rfl;have h1:=A0 1 _ rfl;clear A0;have fin:∀ (e:Int) (A:ab) (H3:Hp),slot A.tm 4=.one (.i .i64 e)→A.dfr=[]→Gr H H3→e=vR nm us n→∃ w H4,aC E2 [.tmp 4] (.ret,A,H3)=.ok [(w,H4)]∧Gr H H4∧∀ _:List Nat,w=.one (.i .i64 (vR nm us n)):=fun e A H3 h1 h2 h3 h4=>⟨_,H3,aj (.i .i64 e) (.inr rfl) h2 h1,h3,fun _=>by rw[h4]⟩;generalize E0:vR nm us n=r0 at fin;refine zG tyF fun K hK=>?_;refine hK.out _ _ ?_;refine R1.gen (fun A1 H1=>Gr H H1∧H.nx<H1.nx∧H1.get H.nx=some (.arr [.o (.str nm),u] 97 0 0)∧slot A1.tm 1=.one (.i .i64 (n:Int))∧slot A1.tm 2=.one ((.o (.ptr H.nx 0 0 2)))∧A1.nt=17∧A1.dfr=[]) ⟨(Fr.refl _).new _,zA6 _,az rfl,zL⟩ ?_;rintro A1 H1 ⟨g1,m1,rx,t1,t2,B0,C0⟩;clear h0 h1 tm hK K;have hu:=hu.gr g1;refine zG (qA tyF lA) fun K hK=>?_;refine WE.con (jR H1 nm u us hu) fun w H2 g2 hq=>?_;subst hq;have g2:=g1.gr g2;unfold vR at E0;generalize aR nm us=e0 at E0;by_cases N0:e0=0
 case neg=>
  have ce:(e0==0)=false:=zB5 N0;refine zK tyF ?_;exact fin (e0) _ _ qp qe (g2) ((by rw[zB0 N0] at E0;exact E0))
 rw[zB1 (fun h=>h N0)] at E0;have ce:(e0==0)=true:=by rw[N0];rfl
 replace N0:Hd (e0=0):=N0;by_cases c0:n<1
 ·refine zK tyF ?_;exact fin (8) _ _ qp qe (g2) ((by rw[zB1 (fun h=>absurd h.1 (by omega))] at E0;exact E0))
 by_cases c1:1099511627776<n
 ·refine zK tyF ?_;exact fin (8) _ _ qp qe (g2) ((by rw[zB1 (fun h=>absurd h.2 (by omega))] at E0;exact E0))
 rw[zB0 ⟨by omega,by omega⟩] at E0;replace E0:Hd _:=E0;refine zK tyF ?_;exact fin (0) _ _ qp qe (g2) (E0.out)
theorem LP (H:Hp) (nm:List UInt8) (u:AC) (us:List Pr) (n:Int) (hu:SlP H u us):
  Con E2 57 [.agg [.o (.str nm),u],.one (.i .i64 n)] H (fun _=>False) fun r H'=>∃ a,r=.tup [(true,[a,.o .nilS]),(false,[.i .i64 (iO nm us n).2])]∧aO H' a (iO nm us n).1∧∀ id∈(AV.one a).ids,H.nx≤id:=by
 refine Con.of rfl fun lg=>?_;have hu:SlP ⟨H.t,H.nx,lg⟩ u us:=hu;have e0:H.nx=(⟨H.t,H.nx,lg⟩:Hp).nx:=rfl;rw[e0];clear e0;generalize (⟨H.t,H.nx,lg⟩:Hp)=H at hu ⊢;refine C1.body (E:=E2) (nt:=26) (res:=[.cell 4 66,.tmp 5]) Tryz.func57 rfl rfl rfl rfl rfl fun tm A0=>?_;have h0:=A0 0 _ rfl;have h1:=A0 1 _ rfl;clear A0;generalize E0:iO nm us n=r0;have fin:∀ (a:AC) (e:Int) (A:ab) (H9:Hp) (M:Nat),slot A.tm 4=.one (.o (.ptr M 0 0 2))→slot A.tm 5=.one (.i .i64 e)→closeAll H9 A.dfr=some H9→H9.get M=some (.arr [a,.o .nilS] 66 0 0)→Gr H H9→aO H9 a r0.1→e=r0.2→(∀ id∈(AV.one a).ids,H.nx≤id) →
   ∃ w H4,aC E2 [.cell 4 66,.tmp 5] (.ret,A,H9)=.ok [(w,H4)]∧Gr H H4∧∀ lg:List Nat,∃ a,w=.tup [(true,[a,.o .nilS]),(false,[.i .i64 r0.2])]∧aO ⟨H4.t,H4.nx,lg⟩ a r0.1∧∀ id∈(AV.one a).ids,H.nx≤id:=fun a e A H9 M s4 s5 hd r1 R0 h1 he h2=>
  ⟨_,H9,cE (.inr rfl) hd (jD lX s4 (by rw[r1];exact yK) (zA1 _) rfl (qC s5 tl)),R0,fun lg=>⟨a,by rw[←he];rfl,h1,h2⟩⟩
 refine zG tyF fun K hK=>?_;refine hK.out _ _ ?_;refine R1.gen (fun A1 H1=>Gr H H1∧H.nx+1<H1.nx∧H1.get H.nx=some (.arr [.o (.str nm),u] 97 0 0)∧H1.get (H.nx+1)=some (.arr [.o .nilS,.o .nilS] 66 0 0)∧slot A1.tm 1=.one (.i .i64 (n:Int))∧slot A1.tm 2=.one ((.o (.ptr H.nx 0 0 2)))∧slot A1.tm 4=.one ((.o (.ptr (H.nx+1) 0 0 2)))∧A1.nt=26∧A1.dfr=[])
  ⟨((Fr.refl _).new _).new _,by show H.nx+1<H.nx+1+1;omega,by rw[aM (by show H.nx<H.nx+1;omega)];exact az rfl,az rfl,zL⟩ ?_
 rintro A1 H1 ⟨g1,m1,rx,ry,t1,t2,t4,B0,C0⟩;clear h0 h1 tm hK K;obtain ⟨N,hN⟩:∃ N,N=H.nx:=⟨_,rfl⟩;rw[←hN] at m1 rx ry t2 t4;have hNl:H.nx≤N:=Nat.le_of_eq hN.symm;have n0:N<H1.nx:=by omega
 replace hN:Hd _:=hN;have hu:=hu.gr g1;refine zG (qA tyF ML) fun K hK=>?_;refine WE.con (Ia H1 nm u us n hu) fun w H2 g2 hq=>?_;subst hq;have rx:=(g2.get _ n0 zB2).trans rx;have n0:=zA0 n0 g2.nx;have ry:=(g2.get _ m1 zB2).trans ry;have m1:=zA0 m1 g2.nx;have hu:=hu.gr g2;have g2:=g1.gr g2;clear g1;by_cases Q2:aR nm us=0
 case neg=>
  have he:vR nm us n=aR nm us:=zB0 Q2;have ce:(aR nm us==0)=false:=zB5 Q2;have S0:([],aR nm us)=r0:=by rw[←E0];exact (zB0 Q2).symm
  replace S0:Hd _:=S0;rw[he];clear he E0 Q2;refine zK tyF ?_;exact fin (.o .nilS) (aR nm us) _ _ (N+1) (by simp only[aa,Nat.reduceEqDiff,reduceIte,t4]) qp (by simp only[ai,C0];rfl) (ak rfl) (g2.mod _ (.inl (by omega))) (by rw[←S0.out];exact aO.nil) (by rw[←S0.out]) (fun id h=>by cases h)
 by_cases hn:1≤n∧n≤1099511627776
 case neg=>
  have he:vR nm us n=8:=by unfold vR;rw[zB1 (fun h=>h Q2),zB1 hn]
  have S0:(([]:List Gp),(8:Int))=r0:=by rw[←E0];unfold iO;rw[zB1 (fun h=>h Q2),zB1 hn]
  replace S0:Hd _:=S0;rw[he];clear he E0 Q2 hn;refine zK tyF ?_;exact fin (.o .nilS) 8 _ _ (N+1) (by simp only[aa,Nat.reduceEqDiff,reduceIte,t4]) qp (by simp only[ai,C0];rfl) (ak rfl) (g2.mod _ (.inl (by omega))) (by rw[←S0.out];exact aO.nil) (by rw[←S0.out]) (fun id h=>by cases h)
 have he:vR nm us n=0:=by unfold vR;rw[zB1 (fun h=>h Q2),zB0 hn]
 obtain ⟨gg,gl,F4,m8⟩:=Ev Q2 hn.1;unfold iO at E0;rw[zB1 (fun h=>h Q2),zB0 hn,F4] at E0;rw[he];clear he;refine zK tyF ?_;refine zG (qA tyF HI) fun K hK=>?_;refine WE.con (Dt H2 nm u us n hu Q2 (by omega) hn.2) fun w H3 g3 ⟨c,hq,hc,c_⟩=>?_;subst hq;rw[F4] at hc;have rx:=(g3.get _ n0 zB2).trans rx;have n0:=zA0 n0 g3.nx;have ry:=(g3.get _ m1 zB2).trans ry;have m1:=zA0 m1 g3.nx;have g23:=g2.nx;have g3:=g2.gr g3;clear g2 Q2 F4 hn;obtain ⟨id,g,off,cells,rfl,hid,R0,J0⟩:=hc.open (by rw[List.length_cons];omega);have hx:=J0 0 gg rfl;rw[Nat.zero_mul,Nat.add_zero] at hx;have x1:=hx.f1;have x2:=hx.le1;have hlen:0<(gg::gl).length:=by rw[List.length_cons];omega
 clear J0 hx;replace E0:Hd _:=E0;replace c_:Hd _:=c_;replace m8:Hd _:=m8;by_cases h99:99<gg.1
 ·have S0:(([]:List Gp),(21:Int))=r0:=by rw[←E0.out,zB0 (by rw[←m8.out];exact decide_eq_true h99)]
  replace S0:Hd _:=S0;clear E0 m8;refine zK tyF ?_;refine zW (qA tyF (ix0 hlen)) ?_;exact fin (.o .nilS) 21 _ _ (N+1) (by simp only[aa,Nat.reduceEqDiff,reduceIte,t4]) qp (by simp only[ai,C0];rfl) (ak rfl) (g3.mod _ (.inl (by omega))) (by rw[←S0.out];exact aO.nil) (by rw[←S0.out]) (fun id h=>by cases h)
 have S0:(gg::gl,(0:Int))=r0:=by rw[←E0.out,zB1 (by rw[←m8.out];simpa using h99)]
 replace S0:Hd _:=S0;have hidN:N+1≠id:=fun e=>by
  have:=c_.out id (List.mem_singleton.2 rfl);omega
 clear E0 m8;refine zK tyF ?_;refine zW (qA tyF (ix0 hlen)) ?_;exact fin (.o (.sl id g off (gg::gl).length 3)) 0 _ _ (N+1) (by simp only[aa,Nat.reduceEqDiff,reduceIte,t4]) qp (by simp only[ai,C0];rfl) (ak rfl) (g3.mod _ (.inl (by omega))) (by rw[←S0.out];exact SlC.fr hc ((Fr.refl _).mod _ (.inr rfl):Fr (fun i=>i=N+1) _ _) (fun i hi e=>by rw[List.mem_singleton.1 hi] at e;exact hidN e.symm)) (by rw[←S0.out]) (fun i hi=>by have:=c_.out i hi;omega)
def Cs.amt (c:Cs) (y:Nm):Cs:=⟨c.face,c.col,c.line,c.kind,y,c.aN,c.ws⟩
def dA (cs:List Cs) (i:Nat) (y:Nm):List Cs:=match cs[i]? with
 | some c=>cs.set i (c.amt y)
 | none=>cs
def okV (o:Option (List Lad)) (x:Cl) (v:Int):Bool:=decide ((ff (bq o x.2.2.1).1 (bq o x.2.2.1).2 x.2.2.2).2=0)&&decide ((ff (bq o x.2.2.1).1 (bq o x.2.2.1).2 x.2.2.2).1=v)
def gK (o:Option (List Lad)):List Cl→List Int→List Cs→List Cs×Int
 | x::l,v::vs,cs=>if okV o x v=true then gK o l vs cs else if (iO (bq o x.2.2.1).1 (bq o x.2.2.1).2 v).2≠0 then ([],(iO (bq o x.2.2.1).1 (bq o x.2.2.1).2 v).2) else gK o l vs (dA cs x.1.toNat ((iO (bq o x.2.2.1).1 (bq o x.2.2.1).2 v).1,[]))
 | _,_,cs=>(cs,0)
def jN (o:Option (List Lad)) (gs:List Gd) (t:Tb) (v:List Int):Tb×Int:=
 if gE o gs t≠0 then (([],[]),gE o gs t) else if qq (cw o gs t).1 v=false then (([],[]),54) else
 if (gK o (cw o gs t).1 v t.2).2≠0 then (([],[]),(gK o (cw o gs t).1 v t.2).2) else ((t.1,(gK o (cw o gs t).1 v t.2).1),0)
theorem nT (cs:List Cs) (i:Nat) (y:Nm):(dA cs i y).length=cs.length:=by
 unfold dA;split
 ·rw[List.length_set]
 rfl
theorem qw {cs:List Cs} {i:Nat} {c:Cs} (h:cs[i]?=some c) (y:Nm):dA cs i y=cs.set i (c.amt y):=by
 unfold dA;rw[h]
theorem Es {sz:Nat}:∀ (i:Nat) (css:List (List AC)) (c c':List AC) (a b:Nat) (m:List AC),(∀ d∈css,d.length=sz)→css[i]?=some c→c'=c.take a++m++c.drop (a+m.length)→a+m.length≤sz →
  (css.set i c').flatMap id=(css.flatMap id).take (i*sz+a)++m++(css.flatMap id).drop (i*sz+a+m.length)
 | _,[],_,_,_,_,_,_,h,_,_=>by cases h
 | 0,d::css,c,c',a,_,m,hl,h,hc,ha=>by
  cases h
  have hd:=hl d (List.mem_cons_self ..);rw[List.set_cons_zero,List.flatMap_cons,List.flatMap_cons,hc,Nat.zero_mul,Nat.zero_add];show d.take a++m++d.drop (a+m.length)++css.flatMap id=(d++css.flatMap id).take a++m++(d++css.flatMap id).drop (a+m.length);rw[List.take_append_of_le_length (by omega),List.drop_append_of_le_length (by omega),List.append_assoc,List.append_assoc]
 | i+1,d::css,c,c',a,b,m,hl,h,hc,ha=>by
  have hd:=hl d (List.mem_cons_self ..);have ih:=Es i css c c' a b m (fun d h=>hl d (List.mem_cons_of_mem _ h)) (by simpa using h) hc ha;rw[List.set_cons_succ,List.flatMap_cons,List.flatMap_cons,ih];show d++_=(d++css.flatMap id).take ((i+1)*sz+a)++m++(d++css.flatMap id).drop ((i+1)*sz+a+m.length);have e1:(i+1)*sz+a=d.length+(i*sz+a):=by rw[hd,Nat.succ_mul];omega
  have e2:(i+1)*sz+a+m.length=d.length+(i*sz+a+m.length):=by rw[hd,Nat.succ_mul];omega
  rw[e2,e1,List.take_length_add_append,List.drop_length_add_append];simp only[List.append_assoc]
theorem Al.setAt {α β:Type} {R R':β→α→Prop}:∀ (i:Nat) {cs:List β} {xs:List α} {c':β} {x':α},Al R cs xs→(∀ c x,R c x→R' c x)→R' c' x'→Al R' (cs.set i c') (xs.set i x')
 | _,[],[],_,_,_,_,_=>trivial
 | 0,_::_,_::_,_,_,h,h1,h2=>⟨h2,h.2.mono h1⟩
 | i+1,_::_,_::_,_,_,h,h1,h2=>⟨h1 _ _ h.1,Al.setAt i h.2 h1 h2⟩
 | _,[],_::_,_,_,h,_,_=>h.elim
 | _,_::_,[],_,_,h,_,_=>h.elim
theorem Al.at {α β:Type} {R:β→α→Prop}:∀ (i:Nat) {cs:List β} {xs:List α} {x:α},Al R cs xs→xs[i]?=some x→∃ c,cs[i]?=some c∧R c x
 | _,[],[],_,_,h=>by cases h
 | 0,c::_,_::_,_,h,hx=>by cases hx;exact ⟨c,rfl,h.1⟩
 | i+1,_::_,_::_,_,h,hx=>Al.at i h.2 (by simpa using hx)
 | _,[],_::_,_,h,_=>h.elim
 | _,_::_,[],_,h,_=>h.elim
theorem Al.Vu {α β:Type} {R:List β→α→Prop} {n:Nat} (hR:∀ c x,R c x→c.length=n):∀ {cs:List (List β)} {xs:List α},Al R cs xs→(∀ c∈cs,c.length=n)∧cs.length=xs.length
 | [],[],_=>⟨fun _ h=>absurd h List.not_mem_nil,rfl⟩
 | c::cs,x::xs,h=>by
  obtain ⟨h1,h2⟩:=Al.Vu hR h.2;refine ⟨fun d hd=>?_,congrArg (·+1) h2⟩;rcases List.mem_cons.1 hd with rfl|hd
  ·exact hR _ _ h.1
  exact h1 d hd
 | [],_::_,h=>h.elim
 | _::_,[],h=>h.elim
theorem bk.dA {X:Nat→Prop} {H:Hp} {v:AC} {l:List Cs} {r:Option Nat} {e:TypeId} (ho:bk CsR 8 e X H v l r) {i:Nat} {x:Cs} (hx:l[i]?=some x) {p q:AC} {y:Nm} (hp:aO H p y.1) (hq:aO H q y.2) (hip:∀ id∈(AV.one p).ids,¬X id∧some id≠r) (hiq:∀ id∈(AV.one q).ids,¬X id∧some id≠r):
  ∃ k gen lo cells,v=.o (.sl k gen 0 l.length 8)∧r=some k∧k<H.nx∧H.get k=some (.arr cells e lo gen)∧lo≤gen∧i*8+8≤cells.length ∧
   bk CsR 8 e X (H.mod k (.arr (cells.take (i*8+4)++[p,q]++cells.drop (i*8+4+2)) e gen gen)) v (dA l i y) r:=by
 obtain ⟨css,a,b⟩:=ho.own;have hi:=(List.getElem?_eq_some_iff.1 hx).1;rcases a with ⟨rfl,h0,_⟩|⟨k,lo,gen,rfl,rfl,h3,h4,h5,h6⟩
 ·omega
 obtain ⟨hl8,B_⟩:=Al.Vu (fun c x (h:c.length=8∧_)=>h.1) b;obtain ⟨c,hc,hc8,⟨p0,q0,w0,rfl,r1,r2,r3⟩,hcn⟩:=Al.at i b hx;have L0:=ho.row k rfl;have S6:Fr (fun j=>j=k) H (H.mod k (.arr ((css.flatMap id).take (i*8+4)++[p,q]++(css.flatMap id).drop (i*8+4+2)) e gen gen)):=(Fr.refl _).mod _ (.inr rfl);have hflat:=Es (sz:=8) i css _ [.i .i64 x.face,.i .i64 x.col,.i .i64 x.line,.i .i64 x.kind,p,q,.o (.str x.aN),w0] 4 0 [p,q] hl8 hc rfl (by show 4+2≤8;decide);have V9:(css.set i [.i .i64 x.face,.i .i64 x.col,.i .i64 x.line,.i .i64 x.kind,p,q,.o (.str x.aN),w0]).flatMap id=(css.flatMap id).take (i*8+4)++[p,q]++(css.flatMap id).drop (i*8+4+2):=hflat;have hw0:∀ j∈(AV.one w0).ids,¬X j∧some j≠some k:=fun j hj=>hcn j (by rw[oL];exact List.mem_append_right _ (List.mem_append_right _ hj));refine ⟨k,gen,lo,css.flatMap id,rfl,rfl,h6,h3,h4,by omega,⟨fun q hq=>?_,css.set i [.i .i64 x.face,.i .i64 x.col,.i .i64 x.line,.i .i64 x.kind,p,q,.o (.str x.aN),w0],?_,?_⟩⟩
 ·cases hq
  exact ⟨L0.1,h6⟩
 ·refine .inr ⟨k,gen,gen,rfl,by rw[nT],by rw[V9];exact ak rfl,zA1 _,?_,h6⟩;rw[V9,nT,List.length_append,List.length_append,List.length_take,List.length_drop];show min (i*8+4) _+2+_=_;omega
 rw[qw hx];refine Al.setAt i b (fun c x ⟨h1,h2,h3⟩=>⟨h1,cK _ _ _ _ _ h2 S6 fun j hj e=>(h3 j hj).2 (by rw[e]),h3⟩) ⟨rfl,⟨p,q,w0,rfl,SlC.fr hp S6 fun j hj e=>(hip j hj).2 (by rw[e]),SlC.fr hq S6 fun j hj e=>(hiq j hj).2 (by rw[e]),SlC.fr r3 S6 fun j hj e=>(hw0 j hj).2 (by rw[e])⟩,fun j hj=>?_⟩;have hj:j∈jh [.i .i64 x.face,.i .i64 x.col,.i .i64 x.line,.i .i64 x.kind,p,q,.o (.str x.aN),w0]:=hj;rw[oL] at hj;rcases List.mem_append.1 hj with hj|hj
 ·exact hip j hj
 rcases List.mem_append.1 hj with hj|hj
 ·exact hiq j hj
 exact hw0 j hj
theorem IA (ls:List Lad):∀ (acc gs:List Gd),goG ls acc gs=0→∀ g∈gs,fH (some ls) g.2.1=0
 | _,[],_=>fun _ h=>absurd h List.not_mem_nil
 | acc,x::gs,h=>fun g hg=>by
  unfold goG at h;split at h
  ·cases h
  split at h
  ·cases h
  split at h
  ·cases h
  rename_i c3
  split at h
  ·cases h
  rcases List.mem_cons.1 hg with rfl|hg
  ·exact Classical.byContradiction c3
  exact IA ls (acc++[x]) gs h g hg
theorem OK {o:Option (List Lad)} {gs:List Gd} (h:pV o gs=0):∀ g∈gs,fH o g.2.1=0:=by
 cases o with
 | none=>cases h
 | some ls=>
  have h':(if (32:Int)<gs.length then 3 else goG ls [] gs)=0:=h;by_cases c:(32:Int)<gs.length
  ·rw[zB0 c] at h';cases h'
  rw[zB1 c] at h';exact IA ls [] gs h'
theorem kD {o:Option (List Lad)} {gs:List Gd} {t:Tb} (h:gE o gs t=0):pV o gs=0∧kE t=0∧(bQ gs 0 t.2 []).2=0:=by
 unfold gE at h;by_cases h1:pV o gs=0
 ·rw[zB1 (fun hh=>hh h1)] at h;by_cases h2:kE t=0
  ·rw[zB1 (fun hh=>hh h2)] at h;exact ⟨h1,h2,h⟩
  rw[zB0 h2] at h;exact absurd h h2
 rw[zB0 h1] at h;exact absurd h h1
theorem mq {o:Option (List Lad)} {gs:List Gd} {t:Tb} (h:gE o gs t=0):(∀ x∈eG o gs t,TZ gs t.2 x∧fH o x.1.2.2.1=0)∧(eG o gs t).length≤64:=by
 obtain ⟨h1,h2,h3⟩:=kD h;have hk:eG o gs t=(bQ gs 0 t.2 []).1:=zB0 h;rw[hk];obtain ⟨a,b⟩:=rr gs t.2 0 t.2 [] rfl (fun _ h=>absurd h List.not_mem_nil) (Nat.zero_le _);refine ⟨fun x hx=>⟨a x hx,?_⟩,b⟩;obtain ⟨j,c,_,_,_,_,hi,hl,_⟩:=a x hx;obtain ⟨gi,_,y8,_⟩:=Bg hi;rw[hl];exact OK h1 _ (List.mem_of_getElem? y8)
theorem ox {o:Option (List Lad)} {gs:List Gd} {t:Tb} (h:gE o gs t=0):(∀ x∈(cw o gs t).1,(∃ j:Nat,x.1=(j:Int)∧j<t.2.length)∧fH o x.2.2.1=0∧∃ c∈t.2,x.2.2.2=c.num)∧(cw o gs t).1.length≤64:=by
 obtain ⟨a,b⟩:=mq h;refine ⟨fun x hx=>?_,by show ((eG o gs t).map Prod.fst).length≤64;rw[List.length_map];exact b⟩;obtain ⟨y,hy,rfl⟩:=List.mem_map.1 hx;obtain ⟨⟨j,c,h1,h2,_,_,_,_,h3,_⟩,h4⟩:=a y hy;exact ⟨⟨j,h1,(List.getElem?_eq_some_iff.1 h2).1⟩,h4,c,List.mem_of_getElem? h2,h3⟩
theorem Fm {lc:List Cl} {v:List Int} (h:qq lc v=true):v.length=lc.length:=by
 unfold qq at h;rw[Bool.and_eq_true,beq_iff_eq] at h;have:=h.1;omega
theorem Uv:al Tryz.prog 19=true:=by kernel_rfl
theorem ue:al Tryz.prog 21=true:=by kernel_rfl
theorem GK {P:Program} {tm:PT AV} {H:Hp} {d:Option Tmp} {x:Operand} {n:Nat} {ty:TypeId} {pos:String} {af:Array Edge} {g:Option (Nat×Bool)}:(an P ⟨d,.extract x n,ty,pos,af,g⟩).run tm H=cy H (ev tm x) n:=by cases x <;> rfl
theorem mI (o:Option (List Lad)) (x:Cl) (l:List Cl) (y:Int) (vs:List Int) (cs:List Cs):gK o (x::l) (y::vs) cs=if okV o x y=true then gK o l vs cs else if (iO (bq o x.2.2.1).1 (bq o x.2.2.1).2 y).2≠0 then ([],(iO (bq o x.2.2.1).1 (bq o x.2.2.1).2 y).2) else gK o l vs (dA cs x.1.toNat ((iO (bq o x.2.2.1).1 (bq o x.2.2.1).2 y).1,[])):=rfl
theorem oZ (o:Option (List Lad)) (vs:List Int) (cs:List Cs):gK o [] vs cs=(cs,0):=by
 unfold gK;rfl
theorem rN (H:Hp) (k gv v w:AC) (o:Option (List Lad)) (gs:List Gd) (nm:List UInt8) (cs:List Cs) (vs:List Int) (hk:bP H k o) (S2:∀ ls,o=some ls→∀ x∈ls,x.2.length≤1000000) (hg:SlG H gv gs) (hv:ca H v cs) (hB:TbB cs) (hO:∀ x∈gs,x.2.2.length≤4611686018427387904) (hw:SlI H w vs) (hV:vs.length≤4611686018427387904):
  Con E2 21 [.one k,.one gv,.agg [.o (.str nm),v],.one w] H (fun _=>False) fun r H'=>∃ v',r=.tup [(true,[.o (.str (jN o gs (nm,cs) vs).1.1),v']),(false,[.i .i64 (jN o gs (nm,cs) vs).2])]∧ca H' v' (jN o gs (nm,cs) vs).1.2:=by
 refine Con.of rfl fun lg=>?_;have hk:bP ⟨H.t,H.nx,lg⟩ k o:=bP.same (H:=H) rfl rfl hk;have hg:SlG ⟨H.t,H.nx,lg⟩ gv gs:=hg;have hv:ca ⟨H.t,H.nx,lg⟩ v cs:=hv;have hw:SlI ⟨H.t,H.nx,lg⟩ w vs:=hw;generalize (⟨H.t,H.nx,lg⟩:Hp)=H at hk hg hv hw ⊢;refine C1.body (E:=E2) (nt:=101) (res:=[.cell 8 26,.tmp 9]) Tryz.func21 rfl rfl rfl rfl rfl fun tm A0=>?_;have h0:=A0 0 _ rfl;have h1:=A0 1 _ rfl;have h2:=A0 2 _ rfl;have h3:=A0 3 _ rfl;clear A0;have hl:cs.length*120≤140737488355328:=hB.c;generalize E0:jN o gs (nm,cs) vs=r0;have fin:∀ (s:List UInt8) (v':AC) (e:Int) (A:ab) (H9:Hp) (M:Nat),slot A.tm 8=.one (.o (.ptr M 0 0 2))→slot A.tm 9=.one (.i .i64 e)→closeAll H9 A.dfr=some H9→H9.get M=some (.arr [.o (.str s),v'] 26 0 0)→Gr H H9→ca H9 v' r0.1.2→s=r0.1.1→e=r0.2 →
   ∃ w H4,aC E2 [.cell 8 26,.tmp 9] (.ret,A,H9)=.ok [(w,H4)]∧Gr H H4∧∀ lg:List Nat,∃ v',w=.tup [(true,[.o (.str r0.1.1),v']),(false,[.i .i64 r0.2])]∧ca ⟨H4.t,H4.nx,lg⟩ v' r0.1.2:=fun s v' e A H9 M s8 s9 hd r1 R0 h1 hs he=>
  ⟨_,H9,cE (.inr rfl) hd (jD jY s8 (by rw[r1];exact yK) (zA1 _) rfl (qC s9 tl)),R0,fun lg=>⟨v',by rw[←hs,←he];rfl,h1⟩⟩
 have bad:∀ (e:Int) (H9:Hp),((([],[]):Tb),e)=r0→ca H9 (.o .nilS) r0.1.2∧([]:List UInt8)=r0.1.1∧e=r0.2:=fun e H9 h=>by
  rw[←h];exact ⟨⟨[],⟨rfl,.inl ⟨rfl,rfl⟩⟩,trivial⟩,rfl,rfl⟩
 unfold jN at E0;have lv:=hv.lt;replace E0:Hd _:=E0;refine zG tyF fun K hK=>?_;refine hK.out _ _ ?_;refine R1.gen (fun A1 H1=>Gr H H1∧H.nx+1<H1.nx∧H1.get H.nx=some (.arr [.o (.str nm),v] 26 0 0)∧H1.get (H.nx+1)=some (.arr [.o (.str []),.o .nilS] 26 0 0)∧slot A1.tm 0=.one (k)∧slot A1.tm 1=.one (gv)∧slot A1.tm 3=.one (w)∧slot A1.tm 6=.one ((.o (.ptr H.nx 0 0 2)))∧slot A1.tm 8=.one ((.o (.ptr (H.nx+1) 0 0 2)))∧A1.nt=101∧A1.dfr=[])
  ⟨((Fr.refl _).new _).new _,by show H.nx+1<H.nx+1+1;omega,by rw[aM (by show H.nx<H.nx+1;omega)];exact az rfl,az rfl,zL⟩ ?_
 clear h0 h1 h2 h3 tm hK K lv;rintro A1 H1 ⟨g1,n1,r0',r1,t0,t1,t3,t6,t8,B0,C0⟩;obtain ⟨N,hN⟩:∃ N,N=H.nx:=⟨_,rfl⟩;rw[←hN] at n1 r0' r1 t6 t8;have hNl:H.nx≤N:=Nat.le_of_eq hN.symm;clear hN;have n0:N<H1.nx:=by omega
 have V3:=hk.gr g1;have F4:=hg.gr g1;have Y1:=hv.gr g1;refine zG (qA tyF Dd) fun K hK=>?_;refine WE.con (tP H1 k gv v o gs nm cs V3 S2 F4 Y1 hB hO) fun w2 H2 g2 ⟨a,b,C4,ha,hb⟩=>?_;subst C4;have r0':=(g2.get _ n0 zB2).trans r0';have n0:=zA0 n0 g2.nx;have r1:=(g2.get _ n1 zB2).trans r1;have n1:=zA0 n1 g2.nx;have g2:=g1.gr g2;have la:=ha.lt;have lb:=hb.lt;have X8:=@ox o gs (nm,cs);have L0:=E0.out;clear E0 g1 V3 F4 Y1;by_cases c1:gE o gs (nm,cs)=0
 case neg=>
  rw[zB0 c1] at L0;obtain ⟨b1,b2,b3⟩:=bad (gE o gs (nm,cs)) (((H2.new (.arr [.o .nilS,.o .nilS] 37 0 0)).mod H2.nx (.arr [a,b] 37 0 0)).mod (N+1) (.arr [.o (.str []),.o .nilS] 26 0 0)) L0;have e1:(gE o gs (nm,cs)==0)=false:=zB5 c1;have g9:Gr H (((H2.new (.arr [.o .nilS,.o .nilS] 37 0 0)).mod H2.nx (.arr [a,b] 37 0 0)).mod (N+1) (.arr [.o (.str []),.o .nilS] 26 0 0)):=((g2.new _).mod _ (.inl (by have:=g2.nx;omega))).mod _ (.inl (by omega));replace b1:Hd _:=b1;replace b2:Hd _:=b2;replace b3:Hd _:=b3;replace g9:Hd _:=g9;clear L0 c1 bad X8 ha hb;refine zK tyF ?_;exact fin [] (.o .nilS) _ _ _ (N+1) (by simp only[aa,Nat.reduceEqDiff,reduceIte,t8]) qp (by simp only[ai,C0];rfl) (ak rfl) g9.out b1.out b2.out b3.out
 rw[zB1 (fun h=>h c1)] at L0;obtain ⟨X8,hlc⟩:=X8 c1;have W4:Ap (nm,cs) (cs.length:Int)=0:=by
  unfold Ap;rw[zB1 (fun h=>h (kD c1).2.1),zB1 (by show ¬((cs.length:Int)<0∨(cs.length:Int)<cs.length);omega)]
 rw[c1];generalize (cw o gs (nm,cs)).1=lc at X8 hlc L0 ha;generalize (cw o gs (nm,cs)).2=lr at hb;clear c1;replace L0:Hd _:=L0;replace X8:Hd _:=X8;replace W4:Hd _:=W4;refine zK tyF ?_;refine R1.gen (fun A3 H3=>Gr H2 H3∧H2.nx<H3.nx∧H3.get H2.nx=some (.arr [a,b] 37 0 0)∧slot A3.tm 0=.one (k)∧slot A3.tm 3=.one (w)∧slot A3.tm 6=.one ((.o (.ptr N 0 0 2)))∧slot A3.tm 8=.one ((.o (.ptr (N+1) 0 0 2)))∧slot A3.tm 10=.one ((.o (.ptr H2.nx 0 0 2)))∧A3.nt=101∧A3.dfr=[])
  ⟨((Fr.refl _).new _).mod _ (.inl (zA1 _)),zA6 _,ak rfl,zL⟩ ?_
 clear t0 t1 t3 t6 t8 B0 C0 A1 la lb;rintro A3 H3 ⟨g3,mP,rP,t0,t3,t6,t8,t10,B0,C0⟩;obtain ⟨P,hP⟩:∃ P,P=H2.nx:=⟨_,rfl⟩;have hNP:N+1<P:=by omega
 rw[←hP] at mP rP t10;clear hP;have r0':=(g3.get _ n0 zB2).trans r0';have n0:=zA0 n0 g3.nx;have r1:=(g3.get _ n1 zB2).trans r1;have n1:=zA0 n1 g3.nx;have ha3:=ha.gr g3;have Y8:=hb.gr g3;have g3:=g2.gr g3;have y5:=hw.gr g3;clear g2 ha hb;refine zG (qA tyF Ee) fun K hK=>?_;refine WE.con (we H3 a b w lc vs ha3 y5 hV) fun w4 H4 g4 Z9=>?_;subst Z9;have r0':=(g4.get _ n0 zB2).trans r0';have n0:=zA0 n0 g4.nx;have r1:=(g4.get _ n1 zB2).trans r1;have n1:=zA0 n1 g4.nx;have rP:=(g4.get _ mP zB2).trans rP;have mP:=zA0 mP g4.nx;have ha4:=ha3.gr g4;have g4:=g3.gr g4;clear g3 ha3 Y8 y5;cases J4:qq lc vs with
 | false=>
  have S0:=L0.out;rw[zB0 J4] at S0;obtain ⟨b1,b2,b3⟩:=bad 54 (H4.mod (N+1) (.arr [.o (.str []),.o .nilS] 26 0 0)) S0;have g9:Gr H (H4.mod (N+1) (.arr [.o (.str []),.o .nilS] 26 0 0)):=g4.mod _ (.inl (by omega));replace b1:Hd _:=b1;replace b2:Hd _:=b2;replace b3:Hd _:=b3;clear S0 L0 bad X8 J4;refine zK tyF ?_;exact fin [] (.o .nilS) 54 _ _ (N+1) (by simp only[aa,Nat.reduceEqDiff,reduceIte,t8]) qp (by simp only[ai,C0];rfl) (ak rfl) g9 b1.out b2.out b3.out
 | true=>
 have S0:=L0.out;rw[zB1 (by rw[J4];decide)] at S0;have I4:=Fm J4;have hv4:=hv.gr g4;have ll:=hv4.len;have lv:=hv4.lt;have r14:=r1;have n14:=n1;clear L0 J4;replace I4:Hd _:=I4;generalize hr9:gK o lc vs cs=r9 at S0;have S0:(if r9.2≠0 then (([],[]),r9.2) else ((nm,r9.1),0))=r0:=S0;replace S0:Hd _:=S0;replace hr9:Hd _:=hr9;refine zK tyF ?_;refine zG (qA tyF Uv) fun K hK=>?_;refine WE.con (Rv H4 nm v cs (cs.length:Int) hv4 hB) fun w5 H5 g5 ⟨va,vb,Y6,hq6,_⟩=>?_;rw[W4.out] at Y6;obtain ⟨q,_,z_,L4⟩:=hq6 W4.out;have lb:=L4.lt;rw[Int.toNat_natCast,List.take_length] at z_;subst Y6;clear hq6 L4 W4 ll lv;have r0':=(g5.get _ n0 zB2).trans r0';have n0:=zA0 n0 g5.nx;have r1:=(g5.get _ n1 zB2).trans r1;have n1:=zA0 n1 g5.nx;have rP:=(g5.get _ mP zB2).trans rP;have mP:=zA0 mP g5.nx;have la:=z_.lt;have n45:=g5.nx;have g5':Gr H4 H5:=g5;refine zK tyF ?_;refine R1.gen (fun A6 H6=>Gr H5 H6∧H5.nx<H6.nx∧H6.get H5.nx=some (.arr [.o (.str nm),va] 26 0 0)∧slot A6.tm 0=.one (k)∧slot A6.tm 3=.one (w)∧slot A6.tm 8=.one ((.o (.ptr (N+1) 0 0 2)))∧slot A6.tm 10=.one ((.o (.ptr P 0 0 2)))∧slot A6.tm 12=.one ((.o (.ptr H5.nx 0 0 2)))∧A6.nt=101∧A6.dfr=[])
  ⟨((((Fr.refl _).new _).new _).mod _ (.inl (zA1 _))).mod _ (.inl (Nat.le_succ _)),by show H5.nx<H5.nx+1+1;omega,by rw[aq (by omega)];exact ak rfl,zL⟩ ?_
 clear t0 t3 t6 t8 t10 B0 C0 A3 la lb;rintro A6 H6 ⟨g6,mT,rT,t0,t3,t8,t10,t12,B0,C0⟩;obtain ⟨T,hT⟩:∃ T,T=H5.nx:=⟨_,rfl⟩;have hT5:H5.nx≤T:=by omega
 rw[←hT] at mT rT t12;clear hT;have b7:bk CsR 8 69 (fun j=>j<H4.nx∨j=T) H6 va cs q:=((z_.TA cM).less (X':=fun j=>j<H4.nx∨j=T) fun j h=>h.elim .inl fun h=>.inr (by omega)).gr cK cM g6;obtain ⟨B,hB4⟩:∃ B,B=H4.nx:=⟨_,rfl⟩;rw[←hB4] at b7;have hBT:B≤T:=by omega
 have hPB:P<B:=by have:=mP;omega
 have hBH:H.nx≤B:=by omega
 have g46:Gr H4 H6:=g5'.gr g6;have r0':=(g6.get _ n0 zB2).trans r0';have n0:=zA0 n0 g6.nx;have r1:=(g6.get _ n1 zB2).trans r1;have n1:=zA0 n1 g6.nx;have rP:=(g6.get _ mP zB2).trans rP;have mP:=zA0 mP g6.nx;have hBl:B≤H4.nx:=by omega
 have hBg:H4.nx≤B:=by omega
 have la6:=(ha4.gr g46).len;have la7:=(ha4.gr g46).lt;clear g5 g5' g6 z_ n45 hB4;replace b7:Hd _:=b7;refine zW tyF ?_;refine R1.dp fun K k1 k2 k3 k4=>?_;refine R1.loop (fun z A H7=>∃ (i:Nat) (ds:List Cs),z=lc.length - i∧i≤lc.length∧ds.length=cs.length∧Gr H4 H7∧T<H7.nx∧H7.get T=some (.arr [.o (.str nm),va] 26 0 0)∧Hd (bk CsR 8 69 (fun j=>j<B∨j=T) H7 va ds q)∧Hd (gK o (lc.drop i) (vs.drop i) ds=r9) ∧
   slot A.tm 0=.one (k)∧slot A.tm 3=.one (w)∧slot A.tm 8=.one ((.o (.ptr (N+1) 0 0 2)))∧slot A.tm 10=.one ((.o (.ptr P 0 0 2)))∧slot A.tm 12=.one ((.o (.ptr T 0 0 2)))∧slot A.tm 49=.one (a)∧slot A.tm 50=.one (.i .i64 (lc.length:Int))∧slot A.tm 51=.one (.i .i64 (i:Int))∧A.nt=101∧A.dfr=[]) ?_ lc.length
  ⟨0,cs,rfl,Nat.zero_le _,rfl,g46,mT,rT,b7,hr9,zL⟩
 clear t0 t3 t8 t10 t12 B0 C0 A6 k3 g46 mT rT b7 hr9 la6 la7;rintro z A H7 ⟨i,ds,rfl,hi,D3,g7,mT,rT,ho,hr,t0,t3,t8,t10,t12,t49,t50,t51,B0,C0⟩;refine zW tyF ?_;refine zI tyF (fun hc=>?_) (fun hc=>?_)
 ·have D0:i<lc.length:=by omega
  have ex:lc[i]?=some lc[i]:=zB4 D0;have O0:lc.drop i=lc[i]::lc.drop (i+1):=List.drop_eq_getElem_cons D0;have Z0:lc.take (i+1)=lc.take i++[lc[i]]:=List.take_succ_eq_append_getElem D0;have G0:lc[i]∈lc:=List.getElem_mem D0;generalize lc[i]=x at ex O0 Z0 G0;have Q1:=zC0 i (by omega);obtain ⟨y,ey⟩:∃ y,vs[i]?=some y:=⟨_,zB4 (by rw[I4.out];exact D0)⟩;have p9:i<vs.length:=(List.getElem?_eq_some_iff.1 ey).1;have hdv:vs.drop i=y::vs.drop (i+1):=by
   rw[List.drop_eq_getElem_cons p9];have h1:=(List.getElem?_eq_some_iff.1 ey).2;rw[h1]
  have V5:=hr.out;rw[O0,hdv,mI] at V5;obtain ⟨⟨j,hxj,hj⟩,hxl,_⟩:=X8.out x G0;have hj:j<cs.length:=hj;have hrd:gM o x=ff (bq o x.2.2.1).1 (bq o x.2.2.1).2 x.2.2.2:=PY hxl;obtain ⟨id,g,off,cells,rfl,hid,R0,J0⟩:=(ha4.gr g7).open (by omega);obtain ⟨p,q',hx⟩:=J0 i x ex;have y1:=hx.all;have y2:=hx.le;have y_:=hx.of1;have j8:=hx.of2;have hw7:=(hw.gr g4).gr g7;have hk7:=(hk.gr g4).gr g7;clear hx J0 O0 hdv ex G0 Z0 hr;replace V5:Hd _:=V5;replace hrd:Hd _:=hrd;replace hxj:Hd _:=hxj;refine zW tyF ?_;refine R1.dp fun K2 p1 p2 p3 p4=>?_;refine zG (qA tyF (ixC D0)) fun K3 T4=>?_;refine T4.out _ _ ?_;refine R1.gen (fun A8 H8=>Gr H7 H8∧H7.nx<H8.nx∧H8.get H7.nx=some (.arr [.i .i64 x.1,.o (.str x.2.1),.o (.str x.2.2.1),p,q'] 84 0 0)∧slot A8.tm 0=.one (k)∧slot A8.tm 3=.one (w)∧slot A8.tm 8=.one ((.o (.ptr (N+1) 0 0 2)))∧slot A8.tm 10=.one ((.o (.ptr P 0 0 2)))∧slot A8.tm 12=.one ((.o (.ptr T 0 0 2)))∧slot A8.tm 15=.one (.i .i64 (i:Int))∧slot A8.tm 16=.one ((.o (.ptr H7.nx 0 0 5)))∧slot A8.tm 49=.one ((.o (.sl id g off lc.length 5)))∧slot A8.tm 50=.one (.i .i64 (lc.length:Int))∧slot A8.tm 51=.one (.i .i64 (i:Int))∧A8.nt=101∧A8.dfr=[])
   ⟨((Fr.refl _).new _).mod _ (.inl (zA1 _)),zA6 _,ak rfl,zL⟩ ?_
  clear t0 t3 t8 t10 t12 t49 t50 t51 B0 C0 A y1 y2 T4 K3 R0 hid;rintro A H8 ⟨g8,mC,rC,t0,t3,t8,t10,t12,t15,t16,t49,t50,t51,B0,C0⟩;obtain ⟨C,hC⟩:∃ C,C=H7.nx:=⟨_,rfl⟩;have hBC:B≤C:=by have:=g7.nx;omega
  have hTC:T<C:=by omega
  rw[←hC] at mC rC t16;clear hC;have l8:=ho.out.gr cK cM g8;have rT:=(g8.get _ mT zB2).trans rT;have mT:=zA0 mT g8.nx;have g78:=g7.gr g8;have hk8:=hk7.gr g8;have hp8:=y_.gr g8;have Y9:=j8.gr g8;clear y_ j8 g7 g8 hk7 ho;replace l8:Hd _:=l8;have go:Hd (∀ (ds':List Cs) (A:ab) (H5:Hp),slot A.tm 0=.one (k)∧slot A.tm 3=.one (w)∧slot A.tm 8=.one ((.o (.ptr (N+1) 0 0 2)))∧slot A.tm 10=.one ((.o (.ptr P 0 0 2)))∧slot A.tm 12=.one ((.o (.ptr T 0 0 2)))∧slot A.tm 49=.one ((.o (.sl id g off lc.length 5)))∧slot A.tm 50=.one (.i .i64 (lc.length:Int))∧slot A.tm 51=.one (.i .i64 (i:Int))∧A.nt=101∧A.dfr=[]→ds'.length=cs.length→Gr H4 H5→T<H5.nx→H5.get T=some (.arr [.o (.str nm),va] 26 0 0)→bk CsR 8 69 (fun j=>j<B∨j=T) H5 va ds' q→gK o (lc.drop (i+1)) (vs.drop (i+1)) ds'=r9→K2 (.exit 1) A H5∧K2 .normal A H5):=by
   clear t0 t3 t8 t10 t12 t15 t16 t49 t50 t51 B0 C0 V5 l8 g78 hk8 hp8 Y9 rC rT mC mT A;rintro ds' A H5 ⟨t0,t3,t8,t10,t12,t49,t50,t51,B0,C0⟩ hdl g5 mT rT z' T2;replace T2:Hd _:=T2;replace z':Hd _:=z';constructor
   ·refine p2.out _ _ ?_;refine zW tyF ?_;exact ⟨lc.length - (i+1),by omega,i+1,ds',rfl,D0,hdl,g5,mT,rT,z',T2,zL⟩
   refine p1.out _ _ ?_;refine zW tyF ?_;exact ⟨lc.length - (i+1),by omega,i+1,ds',rfl,D0,hdl,g5,mT,rT,z',T2,zL⟩
  refine zG (qA tyF JR) fun K3 T4=>?_;refine WE.con (EW H8 k p q' o x hk8 S2 hp8 Y9) fun w9 H9 g9 hq9=>?_;rw[hrd.out] at hq9;subst hq9;have G8:=l8.out.gr cK cM g9;have rT:=(g9.get _ mT zB2).trans rT;have mT:=zA0 mT g9.nx;have rC:=(g9.get _ mC zB2).trans rC;have mC:=zA0 mC g9.nx;have g79:=g78.gr g9;have F_:=hk8.gr g9;have hw9:=(hw.gr g4).gr g79;clear l8 g78 hk8 hp8 Y9 g9 hw7;replace G8:Hd _:=G8;obtain ⟨wid,wg,woff,wcells,rfl,hwid,hwgr,hwat⟩:=hw9.open (by omega);obtain ⟨y1,y2⟩:=hwat i y ey;rw[Nat.mul_one] at y1 y2;clear hwat;have B1:okV o x y=(decide ((ff (bq o x.2.2.1).1 (bq o x.2.2.1).2 x.2.2.2).2=0)&&decide ((ff (bq o x.2.2.1).1 (bq o x.2.2.1).2 x.2.2.2).1=y)):=rfl;generalize hrn:ff (bq o x.2.2.1).1 (bq o x.2.2.1).2 x.2.2.2=rn at B1 ⊢;clear hrn hrd;replace B1:Hd _:=B1;refine zE tyF ?_;repeat refine R1.au ?_
  refine R1.s_h (by kernel_rfl) fun K6 N_=>?_;have key:Hd (∀ (A:ab),slot A.tm 0=.one (k)∧slot A.tm 3=.one ((.o (.sl wid wg woff vs.length 1)))∧slot A.tm 8=.one ((.o (.ptr (N+1) 0 0 2)))∧slot A.tm 10=.one ((.o (.ptr P 0 0 2)))∧slot A.tm 12=.one ((.o (.ptr T 0 0 2)))∧slot A.tm 15=.one (.i .i64 (i:Int))∧slot A.tm 16=.one ((.o (.ptr C 0 0 5)))∧slot A.tm 49=.one ((.o (.sl id g off lc.length 5)))∧slot A.tm 50=.one (.i .i64 (lc.length:Int))∧slot A.tm 51=.one (.i .i64 (i:Int))∧slot A.tm 71=.one ((.b (okV o x y)))∧A.nt=101∧A.dfr=[]→K6 A H9):=by
   clear t0 t3 t8 t10 t12 t15 t16 t49 t50 t51 B0 C0 A B1;rintro A ⟨t0,t3,t8,t10,t12,t15,t16,t49,t50,t51,t71,B0,C0⟩;refine N_.out _ _ ?_;clear N_ K6;cases q8:okV o x y with
   | true=>
    have X0:=V5.out;rw[zB0 q8] at X0;rw[q8] at t71;clear V5 q8;replace X0:Hd _:=X0;refine zW tyF ?_;exact (go.out ds _ _ zL D3 g79 mT rT G8.out X0.out).1
   | false=>
   have X0:=V5.out;rw[zB1 (by rw[q8];decide)] at X0;rw[q8] at t71;clear V5 q8;replace X0:Hd _:=X0;refine zW tyF ?_;refine zG (qA tyF jV) fun K7 hK7=>?_;refine WE.con (iy H9 k o x.2.2.1 F_ S2) fun w10 H10 g10 ⟨c10,p7,hc10,hcl10⟩=>?_;rw[hxl] at p7;subst p7;obtain ⟨u,rfl,hu⟩:=hc10.of;have g_:=G8.out.gr cK cM g10;have rT:=(g10.get _ mT zB2).trans rT;have mT:=zA0 mT g10.nx;have rC:=(g10.get _ mC zB2).trans rC;have mC:=zA0 mC g10.nx;have g710:=g79.gr g10;have E7:=zA0 hwid g10.nx;have T9:rowOf (H10.get wid) wg=some wcells:=by rw[g10.get _ hwid zB2];exact hwgr
   have lu:=hu.lt;clear G8 g79 F_ g10 hwid hwgr hw9 hcl10 hc10;replace g_:Hd _:=g_;refine zE tyF ?_;refine R1.gen (fun A11 H11=>Gr H10 H11∧H10.nx<H11.nx∧H11.get H10.nx=some (.arr [.o (.str (bq o x.2.2.1).1),u] 97 0 0)∧slot A11.tm 0=.one (k)∧slot A11.tm 3=.one ((.o (.sl wid wg woff vs.length 1)))∧slot A11.tm 8=.one ((.o (.ptr (N+1) 0 0 2)))∧slot A11.tm 10=.one ((.o (.ptr P 0 0 2)))∧slot A11.tm 12=.one ((.o (.ptr T 0 0 2)))∧slot A11.tm 15=.one (.i .i64 (i:Int))∧slot A11.tm 16=.one ((.o (.ptr C 0 0 5)))∧slot A11.tm 19=.one ((.o (.ptr H10.nx 0 0 2)))∧slot A11.tm 49=.one ((.o (.sl id g off lc.length 5)))∧slot A11.tm 50=.one (.i .i64 (lc.length:Int))∧slot A11.tm 51=.one (.i .i64 (i:Int))∧A11.nt=101∧A11.dfr=[])
    ⟨((Fr.refl _).new _).mod _ (.inl (zA1 _)),zA6 _,ak rfl,zL⟩ ?_
   clear t0 t3 t8 t10 t12 t15 t16 t49 t50 t51 t71 B0 C0 A lu hK7 K7;rintro A11 H11 ⟨g11,mL,rL,t0,t3,t8,t10,t12,t15,t16,t19,t49,t50,t51,B0,C0⟩;obtain ⟨L,hL2⟩:∃ L,L=H10.nx:=⟨_,rfl⟩;rw[←hL2] at mL rL t19;clear hL2;have F5:=g_.out.gr cK cM g11;have rT:=(g11.get _ mT zB2).trans rT;have mT:=zA0 mT g11.nx;have rC:=(g11.get _ mC zB2).trans rC;have mC:=zA0 mC g11.nx;have g711:=g710.gr g11;have hu11:=hu.gr g11;have R9:=zA0 E7 g11.nx;have S9:rowOf (H11.get wid) wg=some wcells:=by rw[g11.get _ E7 zB2];exact T9
   have hB11:B≤H11.nx:=by have:=g711.nx;omega
   clear g_ g710 g11 E7 T9 hu;replace F5:Hd _:=F5;generalize Z7:iO (bq o x.2.2.1).1 (bq o x.2.2.1).2 y=wr at X0;replace Z7:Hd _:=Z7;repeat refine R1.au ?_
   repeat refine R1.au ?_
   (first|refine R1.lU (ms:=[0,0,0,6,14,31,63,127,127,0,767,2047]) (by kernel_rfl) (by kernel_rfl) fun K hK=>?_|refine R1.e_drw (ms:=[0,0,0,6,14,31,63,127,127,0,767,2047]) (by kernel_rfl) (by kernel_rfl) fun K hK=>?_)
   simp (config:={decide:=true}) only [qB,ay,Nat.reduceLT,Nat.reduceAdd,qD,bK,aS,ae,t3,t15,t19,B0,rL,mL,cW,bu,di,bD p9,Nat.mul_one,R9,S9,y1,y2,Pn]
   refine gX (fun r H'=>∃ a',r=.tup [(true,[a',.o .nilS]),(false,[.i .i64 wr.2])]∧aO H' a' wr.1∧∀ id∈(AV.one a').ids,H11.nx≤id) (fun v h1 h2 hg ⟨a',e1,e2,e3⟩=>⟨a',e1,e2.gr hg,e3⟩) ?_ (fun h hg hn=>by have:=LP h (bq o x.2.2.1).1 u (bq o x.2.2.1).2 y (hu11.gr hg);rw[hn,Z7.out] at this;exact this) ?_
   ·exact unU (by simp (config:={decide:=true}) only [aS,if_true])
   rintro w12 kx H12 ⟨a',rfl,ha',hai⟩ D_ hn12 g12;subst hn12;simp (config:={decide:=true}) only [qB,Nat.reduceLT,Nat.reduceAdd,qD,bK,bS,aS,B0,vl,tZ,@GK]
   refine hK _ _ ?_;refine R1.gen (fun A13 H13=>Gr H12 H13∧H12.nx<H13.nx∧H13.get H12.nx=some (.arr [a',.o .nilS] 66 0 0)∧slot A13.tm 0=.one (k)∧slot A13.tm 3=.one ((.o (.sl wid wg woff vs.length 1)))∧slot A13.tm 8=.one ((.o (.ptr (N+1) 0 0 2)))∧slot A13.tm 10=.one ((.o (.ptr P 0 0 2)))∧slot A13.tm 12=.one ((.o (.ptr T 0 0 2)))∧slot A13.tm 15=.one (.i .i64 (i:Int))∧slot A13.tm 16=.one ((.o (.ptr C 0 0 5)))∧slot A13.tm 21=.one ((.o (.ptr H12.nx 0 0 2)))∧slot A13.tm 22=.one ((.i .i64 wr.2))∧slot A13.tm 49=.one ((.o (.sl id g off lc.length 5)))∧slot A13.tm 50=.one (.i .i64 (lc.length:Int))∧slot A13.tm 51=.one (.i .i64 (i:Int))∧A13.nt=101∧A13.dfr=[])
    ⟨((Fr.refl _).new _).mod _ (.inl (zA1 _)),zA6 _,ak rfl,zL⟩ ?_
   clear t0 t3 t8 t10 t12 t15 t16 t19 t49 t50 t51 B0 C0 A11 hK K R9 S9 y1 y2 rL mL;rintro A13 H13 ⟨g13,mU,rU,t0,t3,t8,t10,t12,t15,t16,t21,t22,t49,t50,t51,B0,C0⟩;obtain ⟨U,hU⟩:∃ U,U=H12.nx:=⟨_,rfl⟩;have hUl:H12.nx≤U:=by omega
   rw[←hU] at mU rU t21;clear hU;have hn12:=g12.nx;have ha13:=ha'.gr g13;have m9:=(F5.out.gr cK cM g12).gr cK cM g13;have hip:∀ id∈(AV.one a').ids,¬(id<B∨id=T)∧some id≠q:=fun id hid=>by
    have h1:=hai id hid;refine ⟨by omega,fun e=>?_⟩;have:=(F5.out.row id e.symm).2;omega
   have rT:=(g12.get _ mT zB2).trans rT;have mT:=zA0 mT g12.nx;have rC:=(g12.get _ mC zB2).trans rC;have mC:=zA0 mC g12.nx;have rT:=(g13.get _ mT zB2).trans rT;have mT:=zA0 mT g13.nx;have rC:=(g13.get _ mC zB2).trans rC;have mC:=zA0 mC g13.nx;have g713:=(g711.gr g12).gr g13;have nN13:N+1<H13.nx:=zA0 n14 g713.nx;have r113:=(g713.get _ n14 zB2).trans r14;clear F5 ha' hai g711 g12 g13;replace m9:Hd _:=m9;replace hip:Hd _:=hip;by_cases e0:wr.2=0
   case neg=>
    have T2:=X0.out;rw[zB0 e0] at T2;have E8:=S0.out;rw[←T2,zB0 e0] at E8;obtain ⟨b1,b2,b3⟩:=bad wr.2 (H13.mod (N+1) (.arr [.o (.str []),.o .nilS] 26 0 0)) E8;have e1:(wr.2==0)=false:=zB5 e0;have g9:Gr H (H13.mod (N+1) (.arr [.o (.str []),.o .nilS] 26 0 0)):=(g4.gr g713).mod _ (.inl (by omega));replace b1:Hd _:=b1;replace b2:Hd _:=b2;replace b3:Hd _:=b3;replace g9:Hd _:=g9;clear T2 E8 X0 S0 bad e0 go;refine zW tyF ?_;exact p4.out _ _ (k4.out _ _ (fin [] (.o .nilS) wr.2 _ _ (N+1) (by simp only[aa,Nat.reduceEqDiff,reduceIte,t8]) qp (by simp only[ai,C0];rfl) (ak rfl) g9.out b1.out b2.out b3.out))
   have T2:=X0.out;rw[zB1 (fun h=>h e0),hxj.out,Int.toNat_natCast] at T2;rw[e0] at t22;have hjd:j<ds.length:=by omega
   have hj2:j<cs.length:=by omega
   obtain ⟨kq,gen,lo,qcells,Q3,hqq,hkq,T0,A_,hle,hoS⟩:=bk.dA m9.out (zB4 hjd) (p:=a') (q:=.o .nilS) (y:=(wr.1,[])) ha13 aO.nil hip.out (fun id hid=>by cases hid);have hXq:=(m9.out.row kq hqq).1;rw[List.append_assoc] at hoS;subst Q3;rw[hxj.out] at rC;have hle2:j*8+4+2≤qcells.length:=by omega
   have hdl:(dA ds j (wr.1,[])).length=cs.length:=by rw[nT,D3]
   have hTk:T≠kq:=fun e=>hXq (.inr e.symm);have hBk:H4.nx≤kq:=by omega
   clear X0 S0 e0 m9 hip bad fin hxj hle;replace hoS:Hd _:=hoS;replace T2:Hd _:=T2;replace hXq:Hd _:=hXq;replace hqq:Hd _:=hqq;replace D3:Hd _:=D3;refine zW (qA tyF (ixC hjd)) ?_;exact (go.out _ _ _ zL hdl (g713.mod _ (.inl hBk)) mT (by rw[aq hTk];exact rT) hoS.out T2.out).2
  clear V5 go;by_cases d1:rn.2=0
  ·have e1:(rn.2==0)=true:=beq_iff_eq.2 d1;by_cases d2:rn.1=y
   ·have e2:(rn.1==y)=true:=beq_iff_eq.2 d2;have b9:Hd (okV o x y=true):=by show okV o x y=true;rw[B1.out,decide_eq_true d1,decide_eq_true d2];rfl
    clear B1 d1 d2;rw[b9.out] at key;refine zS (qA tyF (qA (ixC p9) Nat.mul_one)) ?_;exact key.out _ zL
   have e2:(rn.1==y)=false:=zB5 d2;have b9:Hd (okV o x y=false):=by show okV o x y=false;rw[B1.out,decide_eq_false d2,Bool.and_false]
   clear B1 d1 d2;rw[b9.out] at key;refine zS (qA tyF (qA (ixC p9) Nat.mul_one)) ?_;exact key.out _ zL
  have e1:(rn.2==0)=false:=zB5 d1;have b9:Hd (okV o x y=false):=by show okV o x y=false;rw[B1.out,decide_eq_false d1,Bool.false_and]
  clear B1 d1;rw[b9.out] at key;refine zS (qA tyF (qA (ixC p9) Nat.mul_one)) ?_;exact key.out _ zL
 have S1:i=lc.length:=by omega
 subst S1;have hn:=hr.out;rw[List.drop_length,oZ] at hn;have hn:(ds,(0:Int))=r9:=hn;have T2:=S0.out;rw[←hn,zB1 (fun h=>h rfl)] at T2;have r17:=(g7.get _ n14 zB2).trans r14;have nN7:N+1<H7.nx:=zA0 n14 g7.nx;have lv:=ho.out.lt;have l8:=ho.out.fr cK cM (Y:=fun i=>i=N+1) (H':=H7.mod (N+1) (.arr [.o (.str nm),va] 26 0 0)) ((Fr.refl _).mod _ (.inr rfl)) fun i h=>.inl (.inl (by omega));have b1:ca (H7.mod (N+1) (.arr [.o (.str nm),va] 26 0 0)) va r0.1.2:=by rw[←T2];exact l8.slr
 have b2:nm=r0.1.1:=by rw[←T2]
 have b3:(0:Int)=r0.2:=by rw[←T2]
 have g9:Gr H (H7.mod (N+1) (.arr [.o (.str nm),va] 26 0 0)):=(g4.gr g7).mod _ (.inl (by omega));clear hn hr S0 T2 ho l8 bad;replace b1:Hd _:=b1;replace b2:Hd _:=b2;replace b3:Hd _:=b3;replace g9:Hd _:=g9;refine zW tyF ?_;refine k2.out _ _ ?_;refine zW tyF ?_;exact fin nm va 0 _ _ (N+1) (by simp only[aa,Nat.reduceEqDiff,reduceIte,t8]) qp (by simp only[ai,C0];rfl) (ak rfl) g9.out b1.out b2.out b3.out
theorem NA (nm:List UInt8) (us:List Pr) (n:Int):(iO nm us n).1.length≤12:=by
 unfold iO;by_cases h:aR nm us=0
 ·rw[zB1 (fun hh=>hh h)];split
  ·split
   ·exact Nat.zero_le _
   have:=tc us (aL us n);have:=(hH h).1;show (wrN us (aL us n)).length≤12;omega
  exact Nat.zero_le _
 rw[zB0 h];exact Nat.zero_le _
theorem TbB.dA {cs:List Cs} (h:TbB cs) (i:Nat) {g:List Gp} (hg:g.length≤12):TbB (dA cs i (g,[])):=by
 unfold Proofs.YtnhbkodnmkojpaaGreat.dA;split
 ·rename_i c hc
  have G0:=List.mem_of_getElem? hc;refine ⟨by rw[List.length_set];exact h.c,fun x hx=>?_,fun x hx=>?_⟩
  ·rcases List.mem_or_eq_of_mem_set hx with hx|rfl
   ·exact h.n x hx
   exact ⟨by show g.length*32≤_;omega,by show ([]:List Gp).length*32≤_;decide⟩
  rcases List.mem_or_eq_of_mem_set hx with hx|rfl
  ·exact h.w x hx
  exact h.w c G0
 exact h
theorem TbB.nil:TbB []:=⟨by decide,fun _ h=>absurd h List.not_mem_nil,fun _ h=>absurd h List.not_mem_nil⟩
theorem HE (o:Option (List Lad)):∀ (l:List Cl) (vs:List Int) (cs:List Cs),TbB cs→TbB (gK o l vs cs).1
 | [],vs,cs,h=>by rw[oZ];exact h
 | x::l,[],cs,h=>by unfold gK;exact h
 | x::l,y::vs,cs,h=>by
  rw[mI];split
  ·exact HE o l vs cs h
  split
  ·exact TbB.nil
  exact HE o l vs _ (h.dA _ (NA _ _ _))
theorem UC (o:Option (List Lad)) (gs:List Gd) (t:Tb) (vs:List Int) (h:TbB t.2):TbB (jN o gs t vs).1.2:=by
 unfold jN;split
 ·exact TbB.nil
 split
 ·exact TbB.nil
 split
 ·exact TbB.nil
 exact HE o _ vs _ h
open Go Go.Eng Go.ChangeShapes Go.WideShapes
abbrev Ts:=fa uf (vP .i64)
abbrev zF:=ri Tryz.prog 185 2 Ts
abbrev Lp:=fa (vP .i64) (fa (vP .i64) (fa (vP .i64) (fa (vP .i64) (fa Sg (fa uf zF)))))
abbrev Hi:=ri Tryz.prog 69 8 Lp
abbrev Vn:=fa uf Hi
abbrev GJ:=fa KE (fa AY Vn)
theorem MG:jm zF:=mS (bU bV dD)
theorem QM:jm Lp:=bU dD (bU dD (bU dD (bU dD (bU Ju (bU bV MG)))))
theorem DN:jm KE:=mS (bU bV zw)
theorem zq:jm AY:=mS (bU bV (bU bV yu))
theorem Qf {W:World}:Opn Tryz.prog W 2 Ts 185:=dC Tryz.underlying185 (by kernel_rfl) rfl (bR (fV Tryz.underlying9) bV (fA (iV Tryz.underlying3)))
theorem LO {W:World} (hB:jJ W):Opn Tryz.prog W 1 zF 67:=eY Tryz.underlying67 (by kernel_rfl) (by decide) (bU bV dD) hB Qf
theorem Ng {W:World} (hB:jJ W):Opn Tryz.prog W 8 Lp 69:=dC Tryz.underlying69 (by kernel_rfl) rfl (bR (iV Tryz.underlying3) dD (bR (iV Tryz.underlying3) dD (bR (iV Tryz.underlying3) dD (bR (iV Tryz.underlying3) dD (bR (RF hB) Ju (bR (fV Tryz.underlying9) bV (fA (LO hB))))))))
theorem Mf {W:World} (hB:jJ W):Opn Tryz.prog W 1 Hi 24:=eY Tryz.underlying24 (by kernel_rfl) (by decide) QM hB (Ng hB)
theorem Sf {W:World} (hB:jJ W):Opn Tryz.prog W 2 Vn 26:=dC Tryz.underlying26 (by kernel_rfl) rfl (bR (fV Tryz.underlying9) bV (fA (Mf hB)))
theorem LF {W:World} (hB:jJ W):Opn Tryz.prog W 4 GJ 28:=dC Tryz.underlying28 (by kernel_rfl) rfl (bR (NX hB) DN (bR (LL hB) zq (fA (Sf hB))))
theorem HW {W:World}:Ij Tryz.prog W 4 GJ 28:=rE Tryz.underlying28 (by kernel_rfl) rfl (nG (oc Tryz.underlying22) DN (nG (oc Tryz.underlying23) zq (zb (rE Tryz.underlying26 (by kernel_rfl) rfl (nG (fV Tryz.underlying9).z bV (zb (oc Tryz.underlying24)))))))
theorem AX:Tryz.prog.bytesOf 185=24:=by kernel_rfl
theorem Ar:Tryz.prog.bytesOf 69=120:=by kernel_rfl
def DY (x:Int×Int×Int×Int×Nm×List UInt8×List Pr):Cs:=⟨x.1,x.2.1,x.2.2.1,x.2.2.2.1,x.2.2.2.2.1,x.2.2.2.2.2.1,x.2.2.2.2.2.2⟩
theorem Jk {α β γ:Type} {P:γ→β→Prop} {f:α→β}:∀ {css:List γ} {l:List α},Al (fun c x=>P c (f x)) css l→Al P css (l.map f)
 | [],[],_=>trivial
 | _::_,_::_,h=>⟨h.1,Jk h.2⟩
 | [],_::_,h=>h.elim
 | _::_,[],h=>h.elim
theorem QV {B:Nat} {H:Hp} {c:List AC} {us:List Pr} (h:zF B H c us):∃ u,c=[u]∧SlP H u us∧us.length*24≤B:=by
 obtain ⟨u,rfl,⟨css,h1,h2⟩,h3⟩:=h;refine ⟨u,rfl,?_,by rwa [AX] at h3⟩;have:=mo (f:=prC) (h2.mono fun c x ⟨_,c1,c2,e,a,b⟩=>by rw[e,a.1,b.1];rfl);rw[this] at h1;exact h1
theorem Je {B:Nat} {H:Hp} {c:List AC} {x:Int×Int×Int×Int×Nm×List UInt8×List Pr} (h:Lp B H c x):CsR H c (DY x)∧(DY x).num.1.length*32≤B∧(DY x).num.2.length*32≤B∧(DY x).ws.length*24≤B:=by
 obtain ⟨c1,c2,rfl,a,c3,c4,rfl,b,c5,c6,rfl,d,c7,c8,rfl,e,c9,c10,rfl,f,c11,c12,rfl,g,k⟩:=h;obtain ⟨p,q,rfl,e1,e2,e3,e4⟩:=Uo f;obtain ⟨u,rfl,e5,e6⟩:=QV k;exact ⟨⟨p,q,u,by rw[a.1,b.1,d.1,e.1,g.1];rfl,e1,e2,e5⟩,e3,e4,e6⟩
theorem Oy {B:Nat} {H:Hp} {c:List AC} {l:List (Int×Int×Int×Int×Nm×List UInt8×List Pr)} (hB:B≤140737488355328) (h:Hi B H c l):∃ u,c=[u]∧ca H u (l.map DY)∧TbB (l.map DY):=by
 obtain ⟨u,rfl,⟨css,h1,h2⟩,h3⟩:=h;rw[Ar] at h3;have key:=Al.all (fun c x ⟨_,h⟩=>(Je h).2) h2;refine ⟨u,rfl,⟨css,by rw[List.length_map];exact h1,Jk (h2.mono fun c x ⟨hl,h⟩=>⟨hl,(Je h).1⟩)⟩,⟨by rw[List.length_map];omega,fun x hx=>?_,fun x hx=>?_⟩⟩
 ·obtain ⟨y,hy,rfl⟩:=List.mem_map.1 hx;have:=key y hy;omega
 obtain ⟨y,hy,rfl⟩:=List.mem_map.1 hx;have:=key y hy;omega
theorem Rm {B:Nat} {H:Hp} {c:List AC} {x:List Lad×List Gd×List UInt8×List (Int×Int×Int×Int×Nm×List UInt8×List Pr)} (hB:B≤140737488355328) (h:GJ B H c x):∃ lv gv tv,c=[lv,gv,.o (.str x.2.2.1),tv]∧eL H lv x.1∧SlG H gv x.2.1∧(∀ y∈x.2.1,y.2.2.length*16≤140737488355328)∧ca H tv (x.2.2.2.map DY)∧TbB (x.2.2.2.map DY):=by
 obtain ⟨c1,c2,rfl,a,c3,c4,rfl,b,c5,c6,rfl,d,e⟩:=h;obtain ⟨tv,rfl,e1,e2⟩:=Oy hB e;obtain ⟨lv,rfl,_⟩:=id a;obtain ⟨gv,rfl,_⟩:=id b;refine ⟨lv,gv,tv,by rw[d.1];rfl,(Rt a).1,(FQ b).1,fun y hy=>?_,e1,e2⟩;have:=(FQ b).2.2 y hy;omega
end Go.Proofs.YtnhbkodnmkojpaaGreat
end

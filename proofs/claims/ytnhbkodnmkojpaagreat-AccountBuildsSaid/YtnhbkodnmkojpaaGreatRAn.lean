/- A part of the proof: BkNum6, BkNum7, BkNum8, BkNum9, BkNum10, BkPz1, BkPz2, BkPz4, BkPz5, BkPzArg, BkFacts5, BkFacts9. No conditions. -/
import Derived.Test.YtnhbkodnmkojpaaGreatRAm
import Derived.KernelRfl
set_option maxRecDepth 100000
set_option maxHeartbeats 64000000
set_option linter.unusedVariables false
set_option linter.unusedSimpArgs false
noncomputable section
namespace Go.Proofs.YtnhbkodnmkojpaaGreat
open Go Go.Eng
theorem PK:ak Tryz.prog 122=true:=by kernel_rfl
theorem Pe:ak Tryz.prog 158=true:=by kernel_rfl
theorem pQ {E:Env} {s s':Tmp} {t t':TypeId} {A:ab} {H H2:Hp} {e:aA} {id id' g g':Nat} {c c':AC} (ht:loadT E.P t=some (false,1)) (ht':loadT E.P t'=some (false,1)) (he:e=.normal∨e=.ret) (hd:closeAll H A.dfr=some H2)
  (hs:slot A.tm s=.one (.o (.ptr id g 0 1))) (Y8:slot A.tm s'=.one (.o (.ptr id' g' 0 1))) (hg:rowOf (H2.get id) g=some [c]) (J2:rowOf (H2.get id') g'=some [c']):
  an E [.cell s t,.cell s' t'] (e,A,H)=.ok [(.tup [(false,[c]),(false,[c'])],H2)]:=by
 have one:∀ (s:Tmp) (t:TypeId) (id g:Nat) (c:AC),loadT E.P t=some (false,1)→slot A.tm s=.one (.o (.ptr id g 0 1))→rowOf (H2.get id) g=some [c]→iY E.P (.cell s t) A.tm H2=some (false,[c]):=fun s t id g c ht hs hg=>by
  have e0:iY E.P (.cell s t)=match loadT E.P t with
    | some p=>fun tm h=>az (tm.get s) none fun v=>ae.rec (motive:=fun _=>Option (Bool×List AC)) (fun v _=>fO v) (fun _=>none) (fun _ _=>none) (fun _ _=>none) (fun _=>none) (cd h p.1 p.2 v)
    | none=>fun _ _=>none:=rfl
  rw[e0,ht];show az (A.tm.get s) none (fun v=>ae.rec (motive:=fun _=>Option (Bool×List AC)) (fun v _=>fO v) (fun _=>none) (fun _ _=>none) (fun _ _=>none) (fun _=>none) (cd H2 false 1 v))=_;rw[tJ hs];show ae.rec (motive:=fun _=>Option (Bool×List AC)) (fun v _=>fO v) (fun _=>none) (fun _ _=>none) (fun _ _=>none) (fun _=>none) (cd H2 false 1 (.one (.o (.ptr id g 0 1))))=_;rw[fE,hg,tY (zA1 _) (by simp)];rfl
 have key:(az (closeAll H A.dfr) (R.bad "marks") fun h2=>az (bk E.P [.cell s t,.cell s' t'] A.tm h2) (.bad "results") fun l=>.ok [(du l,h2)])=.ok [(.tup [(false,[c]),(false,[c'])],H2)]:=by
  rw[hd];have hr:bk E.P [.cell s t,.cell s' t'] A.tm H2=some [(false,[c]),(false,[c'])]:=by
   show az (iY E.P (.cell s t) A.tm H2) none (fun x=>az (az (iY E.P (.cell s' t') A.tm H2) none fun x=>az (some []) none fun l=>some (x::l)) none fun l=>some (x::l))=_;rw[one s t id g c ht hs hg,one s' t' id' g' c' ht' Y8 J2];rfl
  show az (bk E.P [.cell s t,.cell s' t'] A.tm H2) (R.bad "results") (fun l=>R.ok [(du l,H2)])=_
  rw[hr];rfl
 rcases he with rfl|rfl
 ·exact key
 exact key
def tF:List (Pr×Int)→List UInt8→Int×Int
 | [],_=>(0,11)
 | y::ys,s=>if y.1.1=s then (y.2,0) else tF ys s
def fh (n:List UInt8) (us:List Pr) (s:List UInt8):Int×Int:=if bE n us≠0 then (0,bE n us) else tF (yv 1 us) s
theorem OI (H:Hp) (n:List UInt8) (u:AC) (us:List Pr) (s:List UInt8) (hu:SlP H u us):
  Con E2 122 [.agg [.o (.str n),u],.one (.o (.str s))] H (fun _=>False) fun r _=>r=.tup [(false,[.i .i64 (fh n us s).1]),(false,[.i .i64 (fh n us s).2])]:=by
 refine Con.of rfl fun lg=>?_;have hu:SlP ⟨H.t,H.nx,lg⟩ u us:=hu;generalize (⟨H.t,H.nx,lg⟩:Hp)=H at hu ⊢;refine C1.body (E:=E2) (nt:=23) (res:=[.cell 4 3,.cell 5 38]) Tryz.func122 rfl rfl rfl rfl rfl fun tm A0=>?_;have h0:=A0 0 _ rfl;have h1:=A0 1 _ rfl;clear A0;refine qG (qA ad (qA h0 (qA h1 (qA pJ oV)))) fun K hK=>?_;refine hK _ _ ?_;clear hK K;have N5:∀ id∈(AV.one u).ids,id<H.nx:=hu.lt;refine R1.gen (fun A1 H1=>Gr H H1∧H.nx+3<H1.nx∧H1.get H.nx=some (.arr [.o (.str n),u] 97 0 0)∧H1.get (H.nx+1)=some (.arr [.o (.str s)] 9 0 0)∧H1.get (H.nx+1+1)=some (.arr [.i .i64 0] 3 0 0)∧H1.get (H.nx+1+1+1)=some (.arr [.i .i64 0] 38 0 0)∧slot A1.tm 2=.one (.o (.ptr H.nx 0 0 2))∧slot A1.tm 3=.one (.o (.ptr (H.nx+1) 0 0 1))∧slot A1.tm 4=.one (.o (.ptr (H.nx+1+1) 0 0 1))∧slot A1.tm 5=.one (.o (.ptr (H.nx+1+1+1) 0 0 1))∧A1.nt=23∧A1.dfr=[])
  ⟨((((Fr.refl _).new _).new _).new _).new _,?_⟩ ?_
 ·refine qT ?_;rw[aW (by show H.nx<H.nx+1+1+1;omega),aW (by show H.nx<H.nx+1+1;omega),aW (by show H.nx<H.nx+1;omega)];exact aB rfl
 rintro A1 H1 ⟨g1,n1,r1,r2,r4,r5,t2,t3,t4,t5,B0,C0⟩;clear h0 h1 tm;have Q1:SlP H1 u us:=hu.gr g1;obtain ⟨c1,r8⟩:∃ c,c=H.nx:=⟨_,rfl⟩;obtain ⟨c2,P7⟩:∃ c,c=H.nx+1:=⟨_,rfl⟩;obtain ⟨c4,hc4⟩:∃ c,c=H.nx+1+1:=⟨_,rfl⟩;obtain ⟨c5,a_⟩:∃ c,c=H.nx+1+1+1:=⟨_,rfl⟩;rw[←a_] at r5 t5;rw[←hc4] at r4 t4;rw[←P7] at r2 t3;rw[←r8] at r1 t2 N5;have o12:c1<c2:=by omega
 have o24:c2<c4:=by omega
 have o45:c4<c5:=by omega
 have o5:c5<H1.nx:=by omega
 have o6:H.nx≤c1:=by omega
 clear a_ hc4 P7 n1;have l1:c1<H1.nx:=by omega
 have l2:c2<H1.nx:=by omega
 have l4:c4<H1.nx:=by omega
 have fin:∀ (e:aA) (A:ab) (H2 H3:Hp) (v w:Int),(e=.normal∨e=.ret)→closeAll H2 A.dfr=some H3→Gr H H3→slot A.tm 4=.one (.o (.ptr c4 0 0 1))→slot A.tm 5=.one (.o (.ptr c5 0 0 1))→H3.get c4=some (.arr [.i .i64 v] 3 0 0)→H3.get c5=some (.arr [.i .i64 w] 38 0 0)→(v,w)=fh n us s →
   ∃ w H4,an E2 [.cell 4 3,.cell 5 38] (e,A,H2)=.ok [(w,H4)]∧Gr H H4∧∀ _:List Nat,w=.tup [(false,[.i .i64 (fh n us s).1]),(false,[.i .i64 (fh n us s).2])]:=fun e A H2 H3 v w he hd hg hs Y8 hr E3 hv=>
  ⟨_,H3,pQ (c:=.i .i64 v) (c':=.i .i64 w) bV pI he hd hs Y8 (by rw[hr];exact bF (zA1 _) (zA1 _)) (by rw[E3];exact bF (zA1 _) (zA1 _)),hg,fun _=>by rw[←hv]⟩
 generalize E0:fh n us s=r0 at fin;unfold fh at E0;repeat refine R1.aE ?_
 refine qG (qA ad (qA t2 (qA B0 (qA r1 (qA l1 (qA ca uV)))))) fun K hK=>?_;refine WE.con (sK H1 n u us Q1) fun v H2 g2 hv=>?_;subst hv;have r1:H2.get c1=some (.arr [.o (.str n),u] 97 0 0):=by rw[g2.get _ l1 zB2];exact r1
 have r2:H2.get c2=some (.arr [.o (.str s)] 9 0 0):=by rw[g2.get _ l2 zB2];exact r2
 have r4:H2.get c4=some (.arr [.i .i64 0] 3 0 0):=by rw[g2.get _ l4 zB2];exact r4
 have r5:H2.get c5=some (.arr [.i .i64 0] 38 0 0):=by rw[g2.get _ o5 zB2];exact r5
 have o5:c5<H2.nx:=zA0 o5 g2.nx;have l1:c1<H2.nx:=by omega
 have l2:c2<H2.nx:=by omega
 have l4:c4<H2.nx:=by omega
 have Y2:=Q1.gr g2;have g2:=g1.gr g2;have hlen:=@iZ n us;refine qS (qA ad B0) ?_;refine hK _ _ ?_;clear hK K;generalize bE n us=e0 at E0 hlen ⊢;by_cases M1:e0=0
 case neg=>
  have ce:(e0 != 0)=true:=bne_iff_ne.2 M1;rw[zB0 M1] at E0;refine qW (qA ad (qA B0 ce)) ?_;refine qE fun Kx Ky hx hy=>?_;refine cY (fun _=>hx ?_) (fun h=>absurd ce (by simpa using h));clear hx hy Kx Ky;repeat' first|refine R1.ret ?_|refine R1.exit ?_|refine R1.skip ?_|refine R1.pO ?_|refine R1.lC ?_|refine R1.aE ?_|refine R1.aT ?_|refine R1.iG ?_|((first|refine R1.GR fun K hK=>?_|refine R1.ow fun K hK=>?_|refine R1.JN (by kernel_rfl) fun K hK=>?_|refine R1.EC (by kernel_rfl) fun K hK=>?_);simp only[qB,aC,Nat.reduceLT,ad,t4,t5,B0,vQ,eB,r4,r5,l4,o5,aI (Nat.ne_of_gt o45)];refine hK _ _ ?_;clear hK K)
  exact fin .ret _ _ _ 0 e0 (.inr rfl) (by simp only[aj,C0];rfl) ((g2.mod _ (.inl (by omega))).mod _ (.inl (by omega))) (by simp only[aa,Nat.reduceEqDiff,reduceIte,t4]) (by simp only[aa,Nat.reduceEqDiff,reduceIte,t5]) (by rw[aI (by omega)];exact al rfl) (al rfl) E0
 rw[zB1 (fun h=>h M1)] at E0;have hlen:=hlen M1;refine qW (qA ad (qA B0 M1)) ?_;refine qY ?_;refine R1.aT ?_;repeat refine R1.aE ?_
 refine qG (qA ad (qA t2 (qA B0 (qA r1 (qA l1 (qA ca Iw)))))) fun K hK=>?_;refine WE.con (zF H2 (.o (.str n)) u Y2.lt) fun v H5 g5 ⟨hv,D_,hln⟩=>?_;subst hv;refine qS (qA ad B0) ?_;refine hK _ _ ?_;clear hK K;refine R1.Ep (fun A4=>slot A4.tm 3=.one (.o (.ptr c2 0 0 1))∧slot A4.tm 4=.one (.o (.ptr c4 0 0 1))∧slot A4.tm 5=.one (.o (.ptr c5 0 0 1))∧slot A4.tm 15=.one (.o (.clo 170 [(H2.nx,0,0,2)]))∧A4.nt=23∧A4.dfr=[])
  ⟨by simp only[aa,Nat.reduceEqDiff,reduceIte,t3],by simp only[aa,Nat.reduceEqDiff,reduceIte,t4],by simp only[aa,Nat.reduceEqDiff,reduceIte,t5],by simp only[aa,Nat.reduceEqDiff,reduceIte],by simp only[aw,B0],by simp only[aj,C0]⟩ ?_
 clear t2 t3 t4 t5 B0 C0 A1;rintro A ⟨t3,t4,t5,t15,B0,C0⟩;have gg:Gr H H5:=g2.gr g5;have r2:H5.get c2=some (.arr [.o (.str s)] 9 0 0):=by rw[g5.get _ l2 zB2];exact r2
 have r4:H5.get c4=some (.arr [.i .i64 0] 3 0 0):=by rw[g5.get _ l4 zB2];exact r4
 have r5:H5.get c5=some (.arr [.i .i64 0] 38 0 0):=by rw[g5.get _ o5 zB2];exact r5
 have T9:SlP H5 u us:=Y2.gr g5;obtain ⟨il,T_⟩:∃ i,i=H2.nx:=⟨_,rfl⟩;rw[←T_] at D_ hln t15 o5 l1 l2 l4;clear T_;generalize W8:yv 1 us=ys at E0;have hyl:ys.length≤us.length:=by rw[←W8];exact BL 1 us
 refine R1.aG fun K k1 k2 k3 k4=>?_;refine R1.range (σ:=Unit) (g:=170) (caps:=[(il,0,0,2)]) (n:=ys.length) (ar:=yA ys) (D:=DL il u) (by simp only[NP,t15]) Be (fun _=>rfl)
  (xX H5 il (.o (.str n)) u us hln D_ T9 (by omega) ys W8) (fun k hk=>by
   rcases hk with h|h
   ·omega
   exact Nat.lt_trans (N5 k h) (by omega)) (by rw[B0];rfl) (fun i _=>TK ys i)
  (fun i _ H6=>H6.get c2=some (.arr [.o (.str s)] 9 0 0)∧H6.get c4=some (.arr [.i .i64 0] 3 0 0)∧H6.get c5=some (.arr [.i .i64 0] 38 0 0)∧tF (ys.drop i) s=r0∧H5.nx≤H6.nx)
  (fun e _ H6=>e=.ret∧H6.get c4=some (.arr [.i .i64 r0.1] 3 0 0)∧H6.get c5=some (.arr [.i .i64 r0.2] 38 0 0)∧H5.nx≤H6.nx)
  (fun _ k=>k=c4∨k=c5) ?_ ?_ ?_ () ?_ ?_ ?_ ?_
 ·rintro i _ H6 H7 ⟨a1,a2,a3,a4,a5⟩ hs;exact ⟨by rw[hs.get _ (by omega) (by omega)];exact a1,by rw[hs.get _ (by omega) (by omega)];exact a2,by rw[hs.get _ (by omega) (by omega)];exact a3,a4,zA2 a5 hs.nx⟩
 ·rintro e _ H6 H7 ⟨a1,a2,a3,a5⟩ hs;exact ⟨a1,by rw[hs.get _ (by omega) (by omega)];exact a2,by rw[hs.get _ (by omega) (by omega)];exact a3,zA2 a5 hs.nx⟩
 ·rintro i _ H6 k ⟨a1,a2,a3,a4,a5⟩ hk;have:k<H5.nx∧c1<k∧k<il:=by rcases hk with rfl|rfl <;> omega
  refine ⟨by omega,by omega,by omega,fun h=>?_⟩;rcases h with h|h
  ·omega
  have:=N5 k h;omega
 ·intro H6 g6 n6;exact ⟨by rw[g6.get _ (by omega) zB2];exact r2,by rw[g6.get _ (by omega) zB2];exact r4,by rw[g6.get _ (by omega) zB2];exact r5,by rw[List.drop_zero];exact E0,g6.nx⟩
 ·rintro i _ H6 hi ⟨a1,a2,a3,a4,a5⟩ n6;have hy:ys[i]?=some ys[i]:=zB4 hi;have Q0:ys.drop i=ys[i]::ys.drop (i+1):=List.drop_eq_getElem_cons hi;generalize ys[i]=y at hy Q0;rw[Q0,tF] at a4;rw[Re hy];obtain ⟨x,yval⟩:=y;refine R1.Ep (fun A7=>slot A7.tm 3=.one (.o (.ptr c2 0 0 1))∧slot A7.tm 4=.one (.o (.ptr c4 0 0 1))∧slot A7.tm 5=.one (.o (.ptr c5 0 0 1))∧slot A7.tm 16=.agg (prC x)∧slot A7.tm 17=.one (.i .i64 yval)∧A7.nt=23∧A7.dfr=[]) ⟨?_,?_,?_,?_,?_,B0,rfl⟩ ?_
  ·show slot ((A.tm.set 16 _).set 17 _) 3=_;simp only[fU,Nat.reduceEqDiff,reduceIte,t3]
  ·show slot ((A.tm.set 16 _).set 17 _) 4=_;simp only[fU,Nat.reduceEqDiff,reduceIte,t4]
  ·show slot ((A.tm.set 16 _).set 17 _) 5=_;simp only[fU,Nat.reduceEqDiff,reduceIte,t5]
  ·show slot ((A.tm.set 16 _).set 17 _) 16=_;simp only[fU,Nat.reduceEqDiff,reduceIte]
  ·show slot ((A.tm.set 16 _).set 17 _) 17=_;simp only[fU,Nat.reduceEqDiff,reduceIte]
  rintro A7 ⟨u3,u4,u5,u16,u17,unt,udf⟩;refine qW (qA ad (qA u16 (qA u17 (qA unt (qA lA (qA nD eK)))))) ?_;refine ⟨rfl,((Fr.refl _).new _).mod _ (.inl (zA1 _)),fun H8 n8 s8=>?_⟩;have gu:H8.get H6.nx=some (.arr (prC x) 165 0 0):=by
   rw[s8.get _ (by show H6.nx<H6.nx+1;omega) (by omega)];exact al rfl
  have keep:∀ k,k<H5.nx→H8.get k=H6.get k:=fun k hk=>by
   rw[s8.get _ (by show k<H6.nx+1;omega) (by omega),aI (by omega),aW (by omega)]
  have n8':H8.nx=H6.nx+1:=n8;have b2:H8.get c2=some (.arr [.o (.str s)] 9 0 0):=(keep c2 (by omega)).trans a1;have b4:H8.get c4=some (.arr [.i .i64 0] 3 0 0):=(keep c4 (by omega)).trans a2;have b5:H8.get c5=some (.arr [.i .i64 0] 38 0 0):=(keep c5 (by omega)).trans a3;have lu:H6.nx<H8.nx:=by omega
  have m2:c2<H8.nx:=by omega
  have m4:c4<H8.nx:=by omega
  have m5:c5<H8.nx:=by omega
  refine R1.qu fun K2 p1 p2 p3 p4=>?_;repeat refine R1.aE ?_
  by_cases R4:x.1=s
  ·rw[zB0 R4] at a4;have cs:(x.1==s)=true:=beq_iff_eq.2 R4;refine qW (qA ad (qA u3 (qA unt (qA gu (qA lu (qA b2 (qA m2 (qA bQ (qA aO eK))))))))) ?_;refine qE fun Kx Ky hx hy=>?_;rw[bO,cs];refine hx ?_;clear hx hy Kx Ky;repeat' first|refine R1.ret ?_|refine R1.exit ?_|refine R1.skip ?_|refine R1.pO ?_|refine R1.lC ?_|refine R1.aE ?_|refine R1.aT ?_|refine R1.iG ?_|((first|refine R1.GR fun K hK=>?_|refine R1.ow fun K hK=>?_|refine R1.JN (by kernel_rfl) fun K hK=>?_|refine R1.EC (by kernel_rfl) fun K hK=>?_);simp only[qB,aC,Nat.reduceLT,ad,u4,u5,unt,vQ,eB,b4,b5,m4,m5,aI (Nat.ne_of_gt o45)];refine hK _ _ ?_;clear hK K)
   refine p4 _ _ ⟨by simp only[aj,udf],((Fr.refl _).mod _ (.inr (.inl (.inl rfl)))).mod _ (.inr (.inl (.inr rfl))),(),fun h=>(by cases h),fun _=>⟨rfl,?_,?_,by show H5.nx≤H8.nx;omega⟩,fun k hk=>.inl hk⟩
   ·rw[aI (by omega),←a4];exact al rfl
   rw[←a4];exact al rfl
  rw[zB1 R4] at a4;have cs:(x.1==s)=false:=zB5 R4;refine qW (qA ad (qA u3 (qA unt (qA gu (qA lu (qA b2 (qA m2 (qA bQ (qA aO eK))))))))) ?_;refine qE fun Kx Ky hx hy=>?_;rw[bO,cs];refine hy ?_;clear hx hy Kx Ky;refine qV ?_;refine p1 _ _ ⟨by simp only[aj,udf],Fr.refl _,(),fun _=>⟨b2,b4,b5,a4,by omega⟩,fun h=>absurd rfl h,fun k hk=>.inl hk⟩
 ·rintro s' H6 ⟨a1,a2,a3,a4,a5⟩ n6 hd6 G7 T8;have g6:Gr H H6:=gg.then G7 fun k hk=>.inl (by rcases hk with rfl|rfl <;> omega);have m4:c4<H6.nx:=by omega
  have m5:c5<H6.nx:=by omega
  rw[List.drop_length,tF] at a4;refine k1 _ _ ?_;refine R1.Ep (fun A7=>slot A7.tm 4=.one (.o (.ptr c4 0 0 1))∧slot A7.tm 5=.one (.o (.ptr c5 0 0 1))∧A7.nt=23∧A7.dfr=[H5.nx]) ⟨t4,t5,B0,by show H5.nx::A.dfr=_;rw[C0]⟩ ?_;rintro A7 ⟨u4,u5,unt,udf⟩;repeat' first|refine R1.ret ?_|refine R1.exit ?_|refine R1.skip ?_|refine R1.pO ?_|refine R1.lC ?_|refine R1.aE ?_|refine R1.aT ?_|refine R1.iG ?_|((first|refine R1.GR fun K hK=>?_|refine R1.ow fun K hK=>?_|refine R1.JN (by kernel_rfl) fun K hK=>?_|refine R1.EC (by kernel_rfl) fun K hK=>?_);simp only[qB,aC,ad,u4,u5,vQ,eB,a2,a3,m4,m5,aI (Nat.ne_of_gt o45)];refine hK _ _ ?_;clear hK K)
  refine fin .ret _ _ _ 0 11 (.inr rfl) (by simp only[udf];exact iF (by rw[aI (by omega),aI (by omega)];exact hd6)) (((g6.mod _ (.inl (by omega))).mod _ (.inl (by omega))).mod _ (.inl (by have:=gg.nx;omega))) (by simp only[u4]) (by simp only[u5]) (by rw[aI (by omega),aI (by omega)];exact al rfl) (by rw[aI (by omega)];exact al rfl) a4
 rintro e s' H6 Z0 ⟨rfl,a2,a3,a5⟩ n6 hd6 G7 T8;have g6:Gr H H6:=gg.then G7 fun k hk=>.inl (by rcases hk with rfl|rfl <;> omega);exact k4 _ _ (fin .ret _ _ _ _ _ (.inr rfl) (by show closeAll H6 (H5.nx::A.dfr)=_;rw[C0];exact iF hd6) (g6.mod _ (.inl (by have:=gg.nx;omega))) t4 t5 (by rw[aI (by omega)];exact a2) (by rw[aI (by omega)];exact a3) rfl)
theorem Ou {n:List UInt8} {us:List Pr} (h:bE n us=0):us.length≤12∧(yv 1 us).length=us.length∧∀ x∈us,1≤x.2∧x.2≤60:=by
 have hl:=iZ h;unfold bE at h;by_cases hk:gq n us=true
 ·unfold gq at hk;simp only[Bool.and_eq_true,decide_eq_true_eq] at hk;have hy:=hk.1.2;exact ⟨hl,hy,((ue 1 us).1 hy).1⟩
 rw[zB1 hk] at h;cases h
theorem NG:∀ (v:Int) (us:List Pr),(yv v us).length=us.length→kI v us=some ((yv v us).map (·.2))
 | _,[],_=>rfl
 | v,x::us,h=>by
  unfold yv at h ⊢;unfold kI;by_cases hb:x.2<1∨60<x.2∨1099511627776<v*x.2
  ·rw[zB0 hb] at h;simp at h
  rw[zB1 hb] at h ⊢;rw[zB1 (fun h=>hb (.inr (.inr h))),NG _ us (by simpa using h)];rfl
theorem FG:∀ (k:Nat) (v:Int) (us:List Pr) (s:List UInt8),(yv v us).length=us.length →
  (lU k us s<0∧tF (yv v us) s=(0,11))∨∃ j y,j<us.length∧lU k us s=((k+j:Nat):Int)∧(yv v us)[j]?=some y∧tF (yv v us) s=(y.2,0)
 | _,_,[],_,_=>.inl ⟨by unfold lU;omega,rfl⟩
 | k,v,x::us,s,h=>by
  unfold yv at h ⊢;by_cases hb:x.2<1∨60<x.2∨1099511627776<v*x.2
  ·rw[zB0 hb] at h;simp at h
  rw[zB1 hb] at h ⊢;rw[tF,lU];by_cases hs:x.1=s
  ·right;refine ⟨0,(x,v*x.2),by simp,?_,rfl,?_⟩
   ·rw[zB0 hs];rfl
   rw[zB0 hs]
  rw[zB1 hs,zB1 hs];rcases FG (k+1) (v*x.2) us s (by simpa using h) with ⟨h1,h2⟩|⟨j,y,h0,h1,h2,h3⟩
  ·exact .inl ⟨h1,h2⟩
  refine .inr ⟨j+1,y,by rw[List.length_cons];omega,?_,by rw[List.getElem?_cons_succ];exact h2,h3⟩;rw[h1];omega
theorem SlI.at {H:Hp} {v:AC} {l:List Int} (h:SlI H v l) {j:Nat} {z:Int} (hz:l[j]?=some z):∃ id g off cells,v=.o (.sl id g off l.length 1)∧id<H.nx∧rowOf (H.get id) g=some cells∧(cells.drop (off+j*1)).headD (.b false)=.i .i64 z∧off+j*1+1≤cells.length∧j<l.length:=by
 have hj:=(List.getElem?_eq_some_iff.1 hz).1;obtain ⟨id,g,off,h1,h2,hr⟩:=SlC.pos h (by omega);have E3:=hr;obtain ⟨cells,h3,h6,h7⟩:=hr;obtain ⟨cells',k3,k6,k7⟩:=Rd.at (c:=tK) Ew E3 hz;rw[h3] at k3;cases k3
 refine ⟨id,g,off,cells,h1,h2,h3,?_,k6,hj⟩;cases hd:cells.drop (off+j*1) with
 | nil=>have:=congrArg List.length hd;simp at this;omega
 | cons a r=>
  rw[hd] at k7;have:=(List.cons.inj k7).1;rw[this];rfl
theorem Jf (H:Hp) (n:List UInt8) (u:AC) (us:List Pr) (s:List UInt8) (hu:SlP H u us):
  Con E2 158 [.agg [.o (.str n),u],.one (.o (.str s))] H (fun _=>False) fun r _=>r=.tup [(false,[.i .i64 (fh n us s).1]),(false,[.i .i64 (fh n us s).2])]:=by
 refine Con.of rfl fun lg=>?_;have hu:SlP ⟨H.t,H.nx,lg⟩ u us:=hu;generalize (⟨H.t,H.nx,lg⟩:Hp)=H at hu ⊢;refine C1.body (E:=E2) (nt:=29) (res:=[.tmp 4,.tmp 5]) Tryz.func158 rfl rfl rfl rfl rfl fun tm A0=>?_;have h0:=A0 0 _ rfl;have h1:=A0 1 _ rfl;clear A0;have fin:∀ (v w:Int) (A:ab) (H3:Hp),slot A.tm 4=.one (.i .i64 v)→slot A.tm 5=.one (.i .i64 w)→A.dfr=[]→Gr H H3→(v,w)=fh n us s →
   ∃ w H4,an E2 [.tmp 4,.tmp 5] (.ret,A,H3)=.ok [(w,H4)]∧Gr H H4∧∀ _:List Nat,w=.tup [(false,[.i .i64 (fh n us s).1]),(false,[.i .i64 (fh n us s).2])]:=fun v w A H3 h1 h2 hd hg hv=>
  ⟨_,H3,aQ (.i .i64 v) (.i .i64 w) (.inr rfl) hd h1 h2,hg,fun _=>by rw[←hv]⟩
 generalize E0:fh n us s=r0 at fin;unfold fh at E0;refine qG (qA ad h0) fun K hK=>?_;refine hK _ _ ?_;clear hK K;refine R1.gen (fun A1 H1=>Gr H H1∧H.nx<H1.nx∧H1.get H.nx=some (.arr [.o (.str n),u] 97 0 0)∧slot A1.tm 1=.one (.o (.str s))∧slot A1.tm 2=.one (.o (.ptr H.nx 0 0 2))∧A1.nt=29∧A1.dfr=[])
  ⟨(Fr.refl _).new _,?_⟩ ?_
 ·exact qZ h1
 rintro A1 H1 ⟨g1,n1,rx,t1,t2,B0,C0⟩;clear h0 h1 tm;have Q1:=hu.gr g1;refine qG (qA ad (qA t2 (qA B0 (qA rx (qA n1 (qA ca mQ)))))) fun K hK=>?_;refine WE.con (lM H1 n u us Q1) fun v H2 g2 hv=>?_;subst hv;have rx2:H2.get H.nx=some (.arr [.o (.str n),u] 97 0 0):=by rw[g2.get _ n1 zB2];exact rx
 have n2:H.nx<H2.nx:=zA0 n1 g2.nx;have Y2:=Q1.gr g2;have g2':=g1.gr g2;have B3:=@Ou n us;refine qS (qA ad B0) ?_;refine hK _ _ ?_;clear hK K;generalize bE n us=e0 at E0 B3 ⊢;by_cases M1:e0=0
 case neg=>
  have ce:(e0 != 0)=true:=bne_iff_ne.2 M1;rw[zB0 M1] at E0;refine qW (qA ad (qA B0 ce)) ?_;refine qE fun Kx Ky hx hy=>?_;refine cY (fun _=>hx ?_) (fun h=>absurd ce (by simpa using h));clear hx hy Kx Ky;refine qW B0 ?_;exact fin 0 e0 _ _ qp qp (qd C0) g2' E0
 rw[zB1 (fun h=>h M1)] at E0;obtain ⟨hl,hyl,hfac⟩:=B3 M1;refine qW (qA ad (qA B0 M1)) ?_;refine qY ?_;refine R1.aT ?_;refine qG (qA ad (qA t1 (qA t2 (qA B0 (qA rx2 (qA n2 (qA ca yP))))))) fun K hK=>?_;refine WE.con (vD H2 n u us s Y2 (by omega)) fun v H3 g3 hv=>?_;subst hv;have rx3:H3.get H.nx=some (.arr [.o (.str n),u] 97 0 0):=by rw[g3.get _ n2 zB2];exact rx2
 have n3:H.nx<H3.nx:=zA0 n2 g3.nx;have m6:=Y2.gr g3;have g3':=g2'.gr g3;refine qS (qA ad B0) ?_;refine hK _ _ ?_;clear hK K;rcases FG 0 1 us s hyl with ⟨i1,i2⟩|⟨j,y,i0,i1,i2,i3⟩
 ·rw[i2] at E0;have c0:(lU 0 us s<0)=True:=eq_true i1;refine qW (qA ad (qA B0 c0)) ?_;refine qY ?_;refine qW B0 ?_;exact fin 0 11 _ _ qp qp (qd C0) g3' E0
 rw[i3] at E0;rw[Nat.zero_add] at i1;rw[i1];have c0:((j:Int)<0)=False:=eq_false (by omega);refine qW (qA ad (qA B0 c0)) ?_;refine qY ?_;refine R1.aT ?_;refine qG (qA ad (qA t2 (qA B0 (qA rx3 (qA n3 (qA ca Ag)))))) fun K hK=>?_;refine WE.con (wc H3 n u us m6 (by omega) hfac) fun w H4 g4 ⟨c,hw,hc⟩=>?_;subst hw;rw[NG 1 us hyl] at hc;have hz:((yv 1 us).map (·.2))[j]?=some y.2:=by rw[List.getElem?_map,i2];rfl
 obtain ⟨id,g,off,cells,rfl,q1,q2,q3,q4,q5⟩:=SlI.at hc hz;have g4':=g3'.gr g4;refine qS (qA ad B0) ?_;refine hK _ _ ?_;clear hK K;refine qW (qA ad (qA B0 (qA fv (qA bV (qA (ixC q5) (qA q1 (qA q2 (qA q3 q4)))))))) ?_;exact fin y.2 0 _ _ qp qp (qd C0) g4' E0
theorem Gi:ak Tryz.prog 145=true:=by kernel_rfl
theorem Mu:ak Tryz.prog 90=true:=by kernel_rfl
theorem oC {E:Env} {s t q:Tmp} {A:ab} {H:Hp} {e:aA} (c d f:AC) (he:e=.normal∨e=.ret) (hd:A.dfr=[]) (hs:slot A.tm s=.one c) (ht:slot A.tm t=.one d) (hq:slot A.tm q=.one f):an E [.tmp s,.tmp t,.tmp q] (e,A,H)=.ok [(.tup [(false,[c]),(false,[d]),(false,[f])],H)]:=by
 have key:(az (closeAll H A.dfr) (R.bad "marks") fun h2=>az (bk E.P [.tmp s,.tmp t,.tmp q] A.tm h2) (.bad "results") fun l=>.ok [(du l,h2)])=.ok [(.tup [(false,[c]),(false,[d]),(false,[f])],H)]:=by
  rw[hd];have hr:bk E.P [.tmp s,.tmp t,.tmp q] A.tm H=some [(false,[c]),(false,[d]),(false,[f])]:=by
   show az (az (A.tm.get s) none fO) none (fun x=>az (az (az (A.tm.get t) none fO) none fun x=>az (az (az (A.tm.get q) none fO) none fun x=>az (some []) none fun l=>some (x::l)) none fun l=>some (x::l)) none fun l=>some (x::l))=_;rw[tJ hs,tJ ht,tJ hq];rfl
  show az (bk E.P [.tmp s,.tmp t,.tmp q] A.tm H) (R.bad "results") (fun l=>R.ok [(du l,H)])=_
  rw[hr];rfl
 rcases he with rfl|rfl
 ·exact key
 exact key
def da (n:List UInt8) (us:List Pr):Bool→Int→Int→List Gp→Int×Int×Int
 | _,sum,last,[]=>(sum,last,0)
 | later,sum,last,g::l=>
  if (fh n us g.2.1).2≠0 then (0,0,(fh n us g.2.1).2) else if later=true∧last≤(fh n us g.2.1).1 then (0,0,22) else
  da n us true (IntKind.i64.wrap (sum+IntKind.i64.wrap (g.1*(fh n us g.2.1).1))) (fh n us g.2.1).1 l
theorem zV (H:Hp) (n:List UInt8) (u v:AC) (us:List Pr) (l:List Gp) (hu:SlP H u us) (hv:aM H v l) (hL:l.length≤1000000):
  Con E2 145 [.agg [.o (.str n),u],.one v] H (fun _=>False) fun r _=>r=.tup [(false,[.i .i64 (da n us false 0 0 l).1]),(false,[.i .i64 (da n us false 0 0 l).2.1]),(false,[.i .i64 (da n us false 0 0 l).2.2])]:=by
 refine Con.of rfl fun lg=>?_;have hu:SlP ⟨H.t,H.nx,lg⟩ u us:=hu;have hv:aM ⟨H.t,H.nx,lg⟩ v l:=hv;generalize (⟨H.t,H.nx,lg⟩:Hp)=H at hu hv ⊢;refine C1.body (E:=E2) (nt:=45) (res:=[.tmp 4,.tmp 5,.tmp 6]) Tryz.func145 rfl rfl rfl rfl rfl fun tm A0=>?_;have h0:=A0 0 _ rfl;have h1:=A0 1 _ rfl;clear A0;have fin:∀ (a b c:Int) (A:ab) (H3:Hp),slot A.tm 4=.one (.i .i64 a)→slot A.tm 5=.one (.i .i64 b)→slot A.tm 6=.one (.i .i64 c)→A.dfr=[]→Gr H H3→(a,b,c)=da n us false 0 0 l →
   ∃ w H4,an E2 [.tmp 4,.tmp 5,.tmp 6] (.ret,A,H3)=.ok [(w,H4)]∧Gr H H4∧∀ _:List Nat,w=.tup [(false,[.i .i64 (da n us false 0 0 l).1]),(false,[.i .i64 (da n us false 0 0 l).2.1]),(false,[.i .i64 (da n us false 0 0 l).2.2])]:=fun a b c A H3 h1 h2 h3 hd hg hv=>
  ⟨_,H3,oC (.i .i64 a) (.i .i64 b) (.i .i64 c) (.inr rfl) hd h1 h2 h3,hg,fun _=>by rw[←hv]⟩
 generalize E0:da n us false 0 0 l=r0 at fin;refine qG (qA ad h0) fun K hK=>?_;refine hK _ _ ?_;clear hK K;refine R1.gen (fun A1 H1=>Gr H H1∧H.nx<H1.nx∧H1.get H.nx=some (.arr [.o (.str n),u] 97 0 0)∧slot A1.tm 1=.one v∧slot A1.tm 2=.one (.o (.ptr H.nx 0 0 2))∧slot A1.tm 4=.one (.i .i64 0)∧slot A1.tm 5=.one (.i .i64 0)∧A1.nt=45∧A1.dfr=[])
  ⟨(Fr.refl _).new _,?_⟩ ?_
 ·exact qZ h1
 rintro A1 H1 ⟨g1,n1,rb,t1,t2,t4,t5,B0,C0⟩;clear h0 h1 tm;obtain ⟨kb,hkb⟩:∃ k,k=H.nx:=⟨_,rfl⟩;rw[←hkb] at n1 rb t2;have Q1:=hu.gr g1;have B2:=hv.gr g1;refine qW (qA ad (qA t1 (qA B0 (qA bM (qA B2.len B2.lt))))) ?_;refine R1.aG fun K k1 k2 k3 k4=>?_;refine R1.loop (fun k A H2=>∃ (i:Nat) (a b:Int),k=l.length - i∧i≤l.length∧Gr H1 H2∧da n us (decide (0<i)) a b (l.drop i)=r0∧slot A.tm 2=.one (.o (.ptr kb 0 0 2))∧slot A.tm 4=.one (.i .i64 a)∧slot A.tm 5=.one (.i .i64 b)∧slot A.tm 11=.one v∧slot A.tm 12=.one (.i .i64 (l.length:Int))∧slot A.tm 13=.one (.i .i64 (i:Int))∧A.nt=45∧A.dfr=[]) ?_ l.length
  ⟨0,0,0,rfl,Nat.zero_le _,Fr.refl _,E0,?_⟩
 ·clear t1 t2 t4 t5 B0 C0 A1;rintro k A H2 ⟨i,a,b,rfl,hi,g2,hr,t2,t4,t5,t11,t12,t13,B0,C0⟩;have Y2:=Q1.gr g2;have X1:=B2.gr g2;have g2':=g1.gr g2;have rb:H2.get kb=some (.arr [.o (.str n),u] 97 0 0):=by rw[g2.get _ n1 zB2];exact rb
  have n2:kb<H2.nx:=zA0 n1 g2.nx;refine qW (qA ad (qA t12 (qA t13 B0))) ?_;refine qE fun Kx Ky hx hy=>?_;refine cY (fun hc=>hx ?_) (fun hc=>hy ?_)
  ·clear hx hy Kx Ky;have D0:i<l.length:=by omega
   obtain ⟨id,g,off,cells,rfl,hid,P0,L0⟩:=X1.open (by omega);have ex:=zB4 D0;have Q0:=zC1 D0;generalize l[i]=x at ex Q0;have K0:=L0 i x ex;have V0:=zC0 i (by omega);rw[Q0,da] at hr;refine qV ?_;refine R1.aG fun K2 q1 q2 q3 q4=>?_;refine qG (qA ad (qA t11 (qA t13 (qA B0 (qA cB (qA dh (qA pb (qA jO (qA (ixC D0) (qA hid (qA P0 (qA K0.all (qA K0.le bY))))))))))))) fun K hK=>?_;refine hK _ _ ?_;clear hK K;refine R1.gen (fun A3 H3=>Gr H2 H3∧H2.nx<H3.nx∧H3.get H2.nx=some (.arr (gpC x) 181 0 0)∧slot A3.tm 2=.one (.o (.ptr kb 0 0 2))∧slot A3.tm 4=.one (.i .i64 a)∧slot A3.tm 5=.one (.i .i64 b)∧slot A3.tm 7=.one (.i .i64 (i:Int))∧slot A3.tm 8=.one (.o (.ptr H2.nx 0 0 3))∧slot A3.tm 11=.one (.o (.sl id g off l.length 3))∧slot A3.tm 12=.one (.i .i64 (l.length:Int))∧slot A3.tm 13=.one (.i .i64 (i:Int))∧A3.nt=45∧A3.dfr=[])
    ⟨((Fr.refl _).new _).mod _ (.inl (zA1 _)),?_⟩ ?_
   ·exact qZ (qA t2 (qA t4 (qA t5 (qA t11 (qA t12 (qA t13 (qA B0 (qA C0 bY))))))))
   clear t2 t4 t5 t11 t12 t13 B0 C0 A;rintro A H3 ⟨g3,n3,rx,t2,t4,t5,t7,t8,t11,t12,t13,B0,C0⟩;have rb3:H3.get kb=some (.arr [.o (.str n),u] 97 0 0):=by rw[g3.get _ n2 zB2];exact rb
   have n23:kb<H3.nx:=zA0 n2 g3.nx;refine qG (qA ad (qA t2 (qA t8 (qA B0 (qA rb3 (qA n23 (qA rx (qA n3 (qA ca (qA eU (qA aO (qA bY PK)))))))))))) fun K hK=>?_;refine WE.con (OI H3 n u us x.2.1 (Y2.gr g3)) fun w H4 g4 hw=>?_;subst hw;have rx4:H4.get H2.nx=some (.arr (gpC x) 181 0 0):=by rw[g4.get _ n3 zB2];exact rx
   have n4:H2.nx<H4.nx:=zA0 n3 g4.nx;have g24:Gr H1 H4:=g2.gr (g3.gr g4);have g4':Gr H H4:=g1.gr g24;refine qS (qA ad B0) ?_;refine hK _ _ ?_;clear hK K;generalize fh n us x.2.1=ve at hr ⊢;obtain ⟨w,e0⟩:=ve;simp only at hr ⊢
   by_cases M1:e0=0
   case neg=>
    have ce:(e0 != 0)=true:=bne_iff_ne.2 M1;rw[zB0 M1] at hr;refine qW (qA ad (qA B0 ce)) ?_;refine qE fun Kx Ky hx hy=>?_;refine cY (fun _=>hx ?_) (fun h=>absurd ce (by simpa using h));clear hx hy Kx Ky;refine qW B0 ?_;exact q4 _ _ (k4 _ _ (fin 0 0 e0 _ _ qp qp qp (qd C0) g4' hr))
   rw[zB1 (fun h=>h M1)] at hr;refine qW (qA ad (qA B0 M1)) ?_;refine qY ?_;refine R1.aT ?_;by_cases P5:(0<i)∧b≤w
   ·have c0:((0:Int)<(i:Int))=True:=eq_true (by omega);have c1:(b≤w)=True:=eq_true P5.2;rw[zB0 ⟨decide_eq_true P5.1,P5.2⟩] at hr;refine qW (qA ad (qA t5 (qA t7 (qA B0 (qA c0 c1))))) ?_;refine qY ?_;refine qW B0 ?_;exact q4 _ _ (k4 _ _ (fin 0 0 22 _ _ qp qp qp (qd C0) g4' hr))
   rw[zB1 (fun h=>P5 ⟨of_decide_eq_true h.1,h.2⟩)] at hr;have next:∀ (A2:ab),slot A2.tm 2=.one (.o (.ptr kb 0 0 2))→slot A2.tm 4=.one (.i .i64 (IntKind.i64.wrap (a+IntKind.i64.wrap (x.1*w))))→slot A2.tm 5=.one (.i .i64 w)→slot A2.tm 11=.one (.o (.sl id g off l.length 3))→slot A2.tm 12=.one (.i .i64 (l.length:Int))→slot A2.tm 13=.one (.i .i64 (i:Int))→A2.nt=45→A2.dfr=[]→K2 .normal A2 H4:=by
    intro A2 s2 s4 s5 s11 s12 s13 hn hd;refine q1 _ _ ?_;refine qW (qA hn (qA s13 V0)) ?_;refine ⟨l.length - (i+1),by omega,i+1,_,w,rfl,D0,g24,(by rw[decide_eq_true (Nat.succ_pos i)];exact hr),?_,?_,?_,?_,?_,?_,?_,?_⟩
    ·simp only[aa,Nat.reduceEqDiff,reduceIte,s2]
    ·simp only[aa,Nat.reduceEqDiff,reduceIte,s4]
    ·simp only[aa,Nat.reduceEqDiff,reduceIte,s5]
    ·simp only[aa,Nat.reduceEqDiff,reduceIte,s11]
    ·simp only[aa,Nat.reduceEqDiff,reduceIte,s12]
    ·simp only[aa,Nat.reduceEqDiff,reduceIte]
    ·simp only[aw,hn]
    simp only[aj,hd]
   clear q1;by_cases h0i:0<i
   ·have c0:((0:Int)<(i:Int))=True:=eq_true (by omega);have c1:(b≤w)=False:=eq_false fun h=>P5 ⟨h0i,h⟩;refine qW (qA ad (qA t5 (qA t7 (qA B0 (qA c0 c1))))) ?_;refine qY ?_;refine qW (qA ad (qA t4 (qA t8 (qA B0 (qA rx4 (qA n4 (qA bY (qA eh bV)))))))) ?_;refine next _ ?_ ?_ ?_ ?_ ?_ ?_ ?_ ?_ <;> simp only[aa,Nat.reduceEqDiff,reduceIte,aw,aj,t2,t11,t12,t13,B0,C0]
   have c0:((0:Int)<(i:Int))=False:=eq_false (by omega);refine qW (qA ad (qA t5 (qA t7 (qA B0 c0)))) ?_;refine qY ?_;refine qW (qA ad (qA t4 (qA t8 (qA B0 (qA rx4 (qA n4 (qA bY (qA eh bV)))))))) ?_;refine next _ ?_ ?_ ?_ ?_ ?_ ?_ ?_ ?_ <;> simp only[aa,Nat.reduceEqDiff,reduceIte,aw,aj,t2,t11,t12,t13,B0,C0]
  clear hx hy Kx Ky;have C2:i=l.length:=by omega
  rw[C2,List.drop_length,da] at hr;refine qW B0 ?_;refine k2 _ _ ?_;refine qW (qA B0 (qA t4 t5)) ?_;exact fin a b 0 _ _ qp qp qp (qd C0) g2' hr
 simp only[aa,Nat.reduceEqDiff,reduceIte,aw,aj,t2,t4,t5,B0,C0,and_self,true_and];exact ⟨rfl,trivial⟩
theorem FR (H:Hp) (n:List UInt8) (u v:AC) (us:List Pr) (l:List Gp) (hu:SlP H u us) (hv:aM H v l) (hL:l.length≤1000000):
  Con E2 90 [.agg [.o (.str n),u],.one v] H (fun _=>False) fun r _=>r=.tup [(false,[.i .i64 (da n us false 0 0 l).1]),(false,[.i .i64 (da n us false 0 0 l).2.1]),(false,[.i .i64 (da n us false 0 0 l).2.2])]:=by
 refine Con.of rfl fun lg=>?_;have hu:SlP ⟨H.t,H.nx,lg⟩ u us:=hu;have hv:aM ⟨H.t,H.nx,lg⟩ v l:=hv;generalize (⟨H.t,H.nx,lg⟩:Hp)=H at hu hv ⊢;refine C1.body (E:=E2) (nt:=50) (res:=[.tmp 4,.tmp 5,.tmp 6]) Tryz.func90 rfl rfl rfl rfl rfl fun tm A0=>?_;have h0:=A0 0 _ rfl;have h1:=A0 1 _ rfl;clear A0;have fin:∀ (a b c:Int) (A:ab) (H3:Hp),slot A.tm 4=.one (.i .i64 a)→slot A.tm 5=.one (.i .i64 b)→slot A.tm 6=.one (.i .i64 c)→A.dfr=[]→Gr H H3→(a,b,c)=da n us false 0 0 l →
   ∃ w H4,an E2 [.tmp 4,.tmp 5,.tmp 6] (.ret,A,H3)=.ok [(w,H4)]∧Gr H H4∧∀ _:List Nat,w=.tup [(false,[.i .i64 (da n us false 0 0 l).1]),(false,[.i .i64 (da n us false 0 0 l).2.1]),(false,[.i .i64 (da n us false 0 0 l).2.2])]:=fun a b c A H3 h1 h2 h3 hd hg hv=>
  ⟨_,H3,oC (.i .i64 a) (.i .i64 b) (.i .i64 c) (.inr rfl) hd h1 h2 h3,hg,fun _=>by rw[←hv]⟩
 generalize E0:da n us false 0 0 l=r0 at fin;refine qG (qA ad h0) fun K hK=>?_;refine hK _ _ ?_;clear hK K;refine R1.gen (fun A1 H1=>Gr H H1∧H.nx<H1.nx∧H1.get H.nx=some (.arr [.o (.str n),u] 97 0 0)∧slot A1.tm 1=.one v∧slot A1.tm 2=.one (.o (.ptr H.nx 0 0 2))∧A1.nt=50∧A1.dfr=[])
  ⟨(Fr.refl _).new _,?_⟩ ?_
 ·exact qZ h1
 rintro A1 H1 ⟨g1,n1,rb,t1,t2,B0,C0⟩;clear h0 h1 tm;obtain ⟨kb,hkb⟩:∃ k,k=H.nx:=⟨_,rfl⟩;rw[←hkb] at n1 rb t2;have Q1:=hu.gr g1;have B2:=hv.gr g1;refine qW (qA ad B0) ?_;refine R1.aG fun K k1 k2 k3 k4=>?_;refine R1.loop (fun k A H2=>∃ (i:Nat) (a b:Int),k=l.length - i∧i≤l.length∧Gr H1 H2∧da n us (decide (0<i)) a b (l.drop i)=r0∧slot A.tm 2=.one (.o (.ptr kb 0 0 2))∧slot A.tm 1=.one v∧slot A.tm 7=.one (.i .i64 a)∧slot A.tm 8=.one (.i .i64 b)∧slot A.tm 9=.one (.i .i64 (i:Int))∧A.nt=50∧A.dfr=[]) ?_ l.length
  ⟨0,0,0,rfl,Nat.zero_le _,Fr.refl _,E0,?_⟩
 ·clear t1 t2 B0 C0 A1;rintro k A H2 ⟨i,a,b,rfl,hi,g2,hr,t2,t1,t7,t8,t9,B0,C0⟩;have Y2:=Q1.gr g2;have X1:=B2.gr g2;have g2':=g1.gr g2;have rb:H2.get kb=some (.arr [.o (.str n),u] 97 0 0):=by rw[g2.get _ n1 zB2];exact rb
  have n2:kb<H2.nx:=zA0 n1 g2.nx;refine qW (qA ad (qA t1 (qA t9 (qA B0 (qA bM (qA X1.len X1.lt)))))) ?_;refine qE fun Kx Ky hx hy=>?_;refine cY (fun hc=>hx ?_) (fun hc=>hy ?_)
  ·clear hx hy Kx Ky;have D0:i<l.length:=by omega
   obtain ⟨id,g,off,cells,rfl,hid,P0,L0⟩:=X1.open (by omega);have ex:=zB4 D0;have Q0:=zC1 D0;generalize l[i]=x at ex Q0;have K0:=L0 i x ex;have V0:=zC0 i (by omega);rw[Q0,da] at hr;refine qV ?_;refine R1.aG fun K2 q1 q2 q3 q4=>?_;refine qG (qA ad (qA t1 (qA t2 (qA t9 (qA B0 (qA rb (qA n2 (qA ca (qA cB (qA (ixC D0) (qA hid (qA P0 (qA eU (qA aO (qA K0.f2 (qA K0.le2 Pe)))))))))))))))) fun K hK=>?_;refine WE.con (Jf H2 n u us x.2.1 Y2) fun w H4 g4 hw=>?_;subst hw;have O2:id<H4.nx:=zA0 hid g4.nx;have G6:rowOf (H4.get id) g=some cells:=by rw[g4.get _ hid zB2];exact P0
   have g24:Gr H1 H4:=g2.gr g4;have g4':Gr H H4:=g1.gr g24;refine qS (qA ad B0) ?_;refine hK _ _ ?_;clear hK K;generalize fh n us x.2.1=ve at hr ⊢;obtain ⟨w,e0⟩:=ve;simp only at hr ⊢
   by_cases M1:e0=0
   case neg=>
    have ce:(e0 != 0)=true:=bne_iff_ne.2 M1;rw[zB0 M1] at hr;refine qW (qA ad (qA B0 ce)) ?_;refine qE fun Kx Ky hx hy=>?_;refine cY (fun _=>hx ?_) (fun h=>absurd ce (by simpa using h));clear hx hy Kx Ky;refine qW B0 ?_;exact q4 _ _ (k4 _ _ (fin 0 0 e0 _ _ qp qp qp (qd C0) g4' hr))
   rw[zB1 (fun h=>h M1)] at hr;refine qW (qA ad (qA B0 M1)) ?_;refine qY ?_;refine R1.aT ?_;by_cases P5:(0<i)∧b≤w
   ·have c0:((0:Int)<(i:Int))=True:=eq_true (by omega);have c1:(b≤w)=True:=eq_true P5.2;rw[zB0 ⟨decide_eq_true P5.1,P5.2⟩] at hr;refine qW (qA ad (qA t8 (qA t9 (qA B0 (qA c0 c1))))) ?_;refine qY ?_;refine qW B0 ?_;exact q4 _ _ (k4 _ _ (fin 0 0 22 _ _ qp qp qp (qd C0) g4' hr))
   rw[zB1 (fun h=>P5 ⟨of_decide_eq_true h.1,h.2⟩)] at hr;have next:∀ (A2:ab),slot A2.tm 2=.one (.o (.ptr kb 0 0 2))→slot A2.tm 7=.one (.i .i64 (IntKind.i64.wrap (a+IntKind.i64.wrap (x.1*w))))→slot A2.tm 8=.one (.i .i64 w)→slot A2.tm 1=.one (.o (.sl id g off l.length 3))→slot A2.tm 9=.one (.i .i64 (i:Int))→A2.nt=50→A2.dfr=[]→K2 .normal A2 H4:=by
    intro A2 s2 s7 s8 s1 s9 hn hd;refine q1 _ _ ?_;refine qW (qA hn (qA s9 V0)) ?_;refine ⟨l.length - (i+1),by omega,i+1,_,w,rfl,D0,g24,(by rw[decide_eq_true (Nat.succ_pos i)];exact hr),?_,?_,?_,?_,?_,?_,?_⟩
    ·simp only[aa,Nat.reduceEqDiff,reduceIte,s2]
    ·simp only[aa,Nat.reduceEqDiff,reduceIte,s1]
    ·simp only[aa,Nat.reduceEqDiff,reduceIte,s7]
    ·simp only[aa,Nat.reduceEqDiff,reduceIte,s8]
    ·simp only[aa,Nat.reduceEqDiff,reduceIte]
    ·simp only[aw,hn]
    simp only[aj,hd]
   clear q1;by_cases h0i:0<i
   ·have c0:((0:Int)<(i:Int))=True:=eq_true (by omega);have c1:(b≤w)=False:=eq_false fun h=>P5 ⟨h0i,h⟩;refine qW (qA ad (qA t8 (qA t9 (qA B0 (qA c0 c1))))) ?_;refine qY ?_;refine qW (qA ad (qA t1 (qA t7 (qA t9 (qA B0 (qA cB (qA (ixC D0) (qA O2 (qA G6 (qA eh (qA bV (qA K0.f1 K0.le1)))))))))))) ?_;refine next _ ?_ ?_ ?_ ?_ ?_ ?_ ?_ <;> simp only[aa,Nat.reduceEqDiff,reduceIte,aw,aj,t2,t1,t9,B0,C0]
   have c0:((0:Int)<(i:Int))=False:=eq_false (by omega);refine qW (qA ad (qA t8 (qA t9 (qA B0 c0)))) ?_;refine qY ?_;refine qW (qA ad (qA t1 (qA t7 (qA t9 (qA B0 (qA cB (qA (ixC D0) (qA O2 (qA G6 (qA eh (qA bV (qA K0.f1 K0.le1)))))))))))) ?_;refine next _ ?_ ?_ ?_ ?_ ?_ ?_ ?_ <;> simp only[aa,Nat.reduceEqDiff,reduceIte,aw,aj,t2,t1,t9,B0,C0]
  clear hx hy Kx Ky;have C2:i=l.length:=by omega
  rw[C2,List.drop_length,da] at hr;refine qW B0 ?_;refine k2 _ _ ?_;refine qW (qA B0 (qA t7 t8)) ?_;exact fin a b 0 _ _ qp qp qp (qd C0) g2' hr
 simp only[aa,Nat.reduceEqDiff,reduceIte,aw,aj,t1,t2,B0,C0,and_self,true_and];exact ⟨rfl,trivial⟩
theorem IK:ak Tryz.prog 85=true:=by kernel_rfl
theorem FM:ak Tryz.prog 41=true:=by kernel_rfl
theorem rV {x:Nm} (h:dt x=0):x.1.length≤24∧x.2.length≤24:=by
 unfold dt at h;by_cases hc:(24:Int)<x.1.length∨(24:Int)<x.2.length
 ·rw[zB0 hc] at h;cases h
 omega
def eu (n:List UInt8) (us:List Pr) (x:Nm):Int×Int:=
 if bE n us≠0 then (0,bE n us) else if dt x≠0 then (0,dt x) else if kg x.1=true then (0,24) else
 if (da n us false 0 0 x.1).2.2≠0 then (0,(da n us false 0 0 x.1).2.2) else if (1099511627776:Int)<(da n us false 0 0 x.1).1 then (0,6) else
 if (da n us false 0 0 x.2).2.2≠0 then (0,(da n us false 0 0 x.2).2.2) else if (da n us false 0 0 x.1).2.1≤(da n us false 0 0 x.2).1 then (0,23) else
 (IntKind.i64.wrap ((da n us false 0 0 x.1).1 - (da n us false 0 0 x.2).1),0)
theorem DX (H:Hp) (n:List UInt8) (u p q:AC) (us:List Pr) (x:Nm) (hu:SlP H u us) (hp:aM H p x.1) (hq:aM H q x.2):
  Con E2 85 [.agg [.o (.str n),u],.agg [p,q]] H (fun _=>False) fun r _=>r=.tup [(false,[.i .i64 (eu n us x).1]),(false,[.i .i64 (eu n us x).2])]:=by
 refine Con.of rfl fun lg=>?_;have hu:SlP ⟨H.t,H.nx,lg⟩ u us:=hu;have hp:aM ⟨H.t,H.nx,lg⟩ p x.1:=hp;have hq:aM ⟨H.t,H.nx,lg⟩ q x.2:=hq;generalize (⟨H.t,H.nx,lg⟩:Hp)=H at hu hp hq ⊢;refine C1.body (E:=E2) (nt:=56) (res:=[.tmp 4,.tmp 5]) Tryz.func85 rfl rfl rfl rfl rfl fun tm A0=>?_;have h0:=A0 0 _ rfl;have h1:=A0 1 _ rfl;clear A0;have fin:∀ (v w:Int) (A:ab) (H3:Hp),slot A.tm 4=.one (.i .i64 v)→slot A.tm 5=.one (.i .i64 w)→A.dfr=[]→Gr H H3→(v,w)=eu n us x →
   ∃ w H4,an E2 [.tmp 4,.tmp 5] (.ret,A,H3)=.ok [(w,H4)]∧Gr H H4∧∀ _:List Nat,w=.tup [(false,[.i .i64 (eu n us x).1]),(false,[.i .i64 (eu n us x).2])]:=fun v w A H3 h1 h2 hd hg hv=>
  ⟨_,H3,aQ (.i .i64 v) (.i .i64 w) (.inr rfl) hd h1 h2,hg,fun _=>by rw[←hv]⟩
 generalize E0:eu n us x=r0 at fin;unfold eu at E0;refine qG (qA ad (qA h0 h1)) fun K hK=>?_;refine hK _ _ ?_;clear hK K;refine R1.gen (fun A1 H1=>Gr H H1∧H.nx+1<H1.nx∧H1.get H.nx=some (.arr [.o (.str n),u] 97 0 0)∧H1.get (H.nx+1)=some (.arr [p,q] 66 0 0)∧slot A1.tm 2=.one (.o (.ptr H.nx 0 0 2))∧slot A1.tm 3=.one (.o (.ptr (H.nx+1) 0 0 2))∧A1.nt=56∧A1.dfr=[])
  ⟨((Fr.refl _).new _).new _,?_⟩ ?_
 ·exact qU
 rintro A1 H1 ⟨g1,n1,ra,rb,t2,t3,B0,C0⟩;clear h0 h1 tm;obtain ⟨k1,Q3⟩:∃ k,k=H.nx:=⟨_,rfl⟩;obtain ⟨k2,U4⟩:∃ k,k=H.nx+1:=⟨_,rfl⟩;rw[←U4] at n1 rb t3;rw[←Q3] at ra t2;have m1:k1<H1.nx:=by omega
 clear Q3 U4;have Q1:=hu.gr g1;have J4:=hp.gr g1;have u7:=hq.gr g1;refine qG (qA ad (qA t2 (qA B0 (qA ra (qA m1 (qA ca uV)))))) fun K hK=>?_;refine WE.con (sK H1 n u us Q1) fun v H2 g2 hv=>?_;subst hv;have ra:=(g2.get _ m1 zB2).trans ra;have rb:=(g2.get _ n1 zB2).trans rb;have m1:=zA0 m1 g2.nx;have n1:=zA0 n1 g2.nx;have Y2:=Q1.gr g2;have E4:=J4.gr g2;have W1:=u7.gr g2;have g2:=g1.gr g2;refine qS (qA ad B0) ?_;refine hK _ _ ?_;clear hK K;generalize bE n us=e0 at E0 ⊢;by_cases M1:e0=0
 case neg=>
  have ce:(e0 != 0)=true:=bne_iff_ne.2 M1;rw[zB0 M1] at E0;refine qW (qA ad (qA B0 ce)) ?_;refine qE fun Kx Ky hx hy=>?_;refine cY (fun _=>hx ?_) (fun h=>absurd ce (by simpa using h));clear hx hy Kx Ky;refine qW B0 ?_;exact fin (0) (e0) _ _ qp qp (qd C0) g2 E0
 rw[zB1 (fun h=>h M1)] at E0;refine qW (qA ad (qA B0 M1)) ?_;refine qY ?_;refine R1.aT ?_;refine qG (qA ad (qA t3 (qA B0 (qA rb (qA n1 (qA mD tk)))))) fun K hK=>?_;refine WE.con (pX H2 p q x E4 W1) fun v H3 g3 hv=>?_;subst hv;have ra:=(g3.get _ m1 zB2).trans ra;have rb:=(g3.get _ n1 zB2).trans rb;have m1:=zA0 m1 g3.nx;have n1:=zA0 n1 g3.nx;have m6:=Y2.gr g3;have a9:=E4.gr g3;have S4:=W1.gr g3;have g3:=g2.gr g3;have hlen:=@rV x;refine qS (qA ad B0) ?_;refine hK _ _ ?_;clear hK K;generalize dt x=e1 at E0 hlen ⊢;by_cases X4:e1=0
 case neg=>
  have ce:(e1 != 0)=true:=bne_iff_ne.2 X4;rw[zB0 X4] at E0;refine qW (qA ad (qA B0 ce)) ?_;refine qE fun Kx Ky hx hy=>?_;refine cY (fun _=>hx ?_) (fun h=>absurd ce (by simpa using h));clear hx hy Kx Ky;refine qW B0 ?_;exact fin (0) (e1) _ _ qp qp (qd C0) g3 E0
 rw[zB1 (fun h=>h X4)] at E0;obtain ⟨M7,Y'⟩:=hlen X4;refine qW (qA ad (qA B0 X4)) ?_;refine qY ?_;refine R1.aT ?_;refine qG (qA ad (qA t3 (qA B0 (qA rb (qA n1 (qA bm (qA bq yG))))))) fun K hK=>?_;refine WE.con (vS H3 p x.1 a9 (by omega)) fun v H4 g4 hv=>?_;subst hv;have ra:=(g4.get _ m1 zB2).trans ra;have rb:=(g4.get _ n1 zB2).trans rb;have m1:=zA0 m1 g4.nx;have n1:=zA0 n1 g4.nx;have n_:=m6.gr g4;have hp4:=a9.gr g4;have X6:=S4.gr g4;have g4:=g3.gr g4;refine qS (qA ad B0) ?_;refine hK _ _ ?_;clear hK K;cases hb:kg x.1 with
 | true=>
  rw[zB0 hb] at E0;refine qY ?_;refine qW B0 ?_;exact fin (0) (24) _ _ qp qp (qd C0) g4 E0
 | false=>
 rw[zB1 (by rw[hb];exact zA8)] at E0;refine qY ?_;refine R1.aT ?_;refine qG (qA ad (qA t2 (qA t3 (qA B0 (qA ra (qA m1 (qA rb (qA n1 (qA ca (qA bm (qA bq Gi))))))))))) fun K hK=>?_;refine WE.con (zV H4 n u p us x.1 n_ hp4 (by omega)) fun v H5 g5 hv=>?_;subst hv;have ra:=(g5.get _ m1 zB2).trans ra;have rb:=(g5.get _ n1 zB2).trans rb;have m1:=zA0 m1 g5.nx;have n1:=zA0 n1 g5.nx;have T9:=n_.gr g5;have E5:=X6.gr g5;have g5:=g4.gr g5;refine qS (qA ad B0) ?_;refine hK _ _ ?_;clear hK K;generalize da n us false 0 0 x.1=s1 at E0 ⊢;obtain ⟨a1,b1,c1⟩:=s1;simp only at E0 ⊢
 by_cases r8:c1=0
 case neg=>
  have ce:(c1 != 0)=true:=bne_iff_ne.2 r8;rw[zB0 r8] at E0;refine qW (qA ad (qA B0 ce)) ?_;refine qE fun Kx Ky hx hy=>?_;refine cY (fun _=>hx ?_) (fun h=>absurd ce (by simpa using h));clear hx hy Kx Ky;refine qW B0 ?_;exact fin (0) (c1) _ _ qp qp (qd C0) g5 E0
 rw[zB1 (fun h=>h r8)] at E0;refine qW (qA ad (qA B0 r8)) ?_;refine qY ?_;refine R1.aT ?_;by_cases M0:(1099511627776:Int)<a1
 ·have cb:((1099511627776:Int)<a1)=True:=eq_true M0;rw[zB0 M0] at E0;refine qW (qA ad (qA B0 cb)) ?_;refine qY ?_;refine qW B0 ?_;exact fin (0) (6) _ _ qp qp (qd C0) g5 E0
 have cb:((1099511627776:Int)<a1)=False:=eq_false M0;rw[zB1 M0] at E0;refine qW (qA ad (qA B0 cb)) ?_;refine qY ?_;refine R1.aT ?_;refine qG (qA ad (qA t2 (qA t3 (qA B0 (qA ra (qA m1 (qA rb (qA n1 (qA ca (qA cm (qA bq Gi))))))))))) fun K hK=>?_;refine WE.con (zV H5 n u q us x.2 T9 E5 (by omega)) fun v H6 g6 hv=>?_;subst hv;have g6:=g5.gr g6;refine qS (qA ad B0) ?_;refine hK _ _ ?_;clear hK K;generalize da n us false 0 0 x.2=s2 at E0 ⊢;obtain ⟨a2,b2,c2⟩:=s2;simp only at E0 ⊢
 by_cases P7:c2=0
 case neg=>
  have ce:(c2 != 0)=true:=bne_iff_ne.2 P7;rw[zB0 P7] at E0;refine qW (qA ad (qA B0 ce)) ?_;refine qE fun Kx Ky hx hy=>?_;refine cY (fun _=>hx ?_) (fun h=>absurd ce (by simpa using h));clear hx hy Kx Ky;refine qW B0 ?_;exact fin (0) (c2) _ _ qp qp (qd C0) g6 E0
 rw[zB1 (fun h=>h P7)] at E0;refine qW (qA ad (qA B0 P7)) ?_;refine qY ?_;refine R1.aT ?_;by_cases U6:b1≤a2
 ·have cg:(b1≤a2)=True:=eq_true U6;rw[zB0 U6] at E0;refine qW (qA ad (qA B0 cg)) ?_;refine qY ?_;refine qW B0 ?_;exact fin (0) (23) _ _ qp qp (qd C0) g6 E0
 have cg:(b1≤a2)=False:=eq_false U6;rw[zB1 U6] at E0;refine qW (qA ad (qA B0 cg)) ?_;refine qY ?_;refine qW B0 ?_;exact fin (IntKind.i64.wrap (a1 - a2)) (0) _ _ qp qp (qd C0) g6 E0
theorem Ct (H:Hp) (n:List UInt8) (u p q:AC) (us:List Pr) (x:Nm) (hu:SlP H u us) (hp:aM H p x.1) (hq:aM H q x.2):
  Con E2 41 [.agg [.o (.str n),u],.agg [p,q]] H (fun _=>False) fun r _=>r=.tup [(false,[.i .i64 (eu n us x).1]),(false,[.i .i64 (eu n us x).2])]:=by
 refine Con.of rfl fun lg=>?_;have hu:SlP ⟨H.t,H.nx,lg⟩ u us:=hu;have hp:aM ⟨H.t,H.nx,lg⟩ p x.1:=hp;have hq:aM ⟨H.t,H.nx,lg⟩ q x.2:=hq;generalize (⟨H.t,H.nx,lg⟩:Hp)=H at hu hp hq ⊢;refine C1.body (E:=E2) (nt:=56) (res:=[.tmp 4,.tmp 5]) Tryz.func41 rfl rfl rfl rfl rfl fun tm A0=>?_;have h0:=A0 0 _ rfl;have h1:=A0 1 _ rfl;clear A0;have fin:∀ (v w:Int) (A:ab) (H3:Hp),slot A.tm 4=.one (.i .i64 v)→slot A.tm 5=.one (.i .i64 w)→A.dfr=[]→Gr H H3→(v,w)=eu n us x →
   ∃ w H4,an E2 [.tmp 4,.tmp 5] (.ret,A,H3)=.ok [(w,H4)]∧Gr H H4∧∀ _:List Nat,w=.tup [(false,[.i .i64 (eu n us x).1]),(false,[.i .i64 (eu n us x).2])]:=fun v w A H3 h1 h2 hd hg hv=>
  ⟨_,H3,aQ (.i .i64 v) (.i .i64 w) (.inr rfl) hd h1 h2,hg,fun _=>by rw[←hv]⟩
 generalize E0:eu n us x=r0 at fin;unfold eu at E0;refine qG (qA ad (qA h0 h1)) fun K hK=>?_;refine hK _ _ ?_;clear hK K;refine R1.gen (fun A1 H1=>Gr H H1∧H.nx+1<H1.nx∧H1.get H.nx=some (.arr [.o (.str n),u] 97 0 0)∧H1.get (H.nx+1)=some (.arr [p,q] 66 0 0)∧slot A1.tm 2=.one (.o (.ptr H.nx 0 0 2))∧slot A1.tm 3=.one (.o (.ptr (H.nx+1) 0 0 2))∧A1.nt=56∧A1.dfr=[])
  ⟨((Fr.refl _).new _).new _,?_⟩ ?_
 ·exact qU
 rintro A1 H1 ⟨g1,n1,ra,rb,t2,t3,B0,C0⟩;clear h0 h1 tm;obtain ⟨k1,Q3⟩:∃ k,k=H.nx:=⟨_,rfl⟩;obtain ⟨k2,U4⟩:∃ k,k=H.nx+1:=⟨_,rfl⟩;rw[←U4] at n1 rb t3;rw[←Q3] at ra t2;have m1:k1<H1.nx:=by omega
 clear Q3 U4;have Q1:=hu.gr g1;have J4:=hp.gr g1;have u7:=hq.gr g1;refine qG (qA ad (qA t2 (qA B0 (qA ra (qA m1 (qA ca mQ)))))) fun K hK=>?_;refine WE.con (lM H1 n u us Q1) fun v H2 g2 hv=>?_;subst hv;have ra:=(g2.get _ m1 zB2).trans ra;have rb:=(g2.get _ n1 zB2).trans rb;have m1:=zA0 m1 g2.nx;have n1:=zA0 n1 g2.nx;have Y2:=Q1.gr g2;have E4:=J4.gr g2;have W1:=u7.gr g2;have g2:=g1.gr g2;refine qS (qA ad B0) ?_;refine hK _ _ ?_;clear hK K;generalize bE n us=e0 at E0 ⊢;by_cases M1:e0=0
 case neg=>
  have ce:(e0 != 0)=true:=bne_iff_ne.2 M1;rw[zB0 M1] at E0;refine qW (qA ad (qA B0 ce)) ?_;refine qE fun Kx Ky hx hy=>?_;refine cY (fun _=>hx ?_) (fun h=>absurd ce (by simpa using h));clear hx hy Kx Ky;refine qW B0 ?_;exact fin (0) (e0) _ _ qp qp (qd C0) g2 E0
 rw[zB1 (fun h=>h M1)] at E0;refine qW (qA ad (qA B0 M1)) ?_;refine qY ?_;refine R1.aT ?_;refine qG (qA ad (qA t3 (qA B0 (qA rb (qA n1 (qA mD pS)))))) fun K hK=>?_;refine WE.con (oK H2 p q x E4 W1) fun v H3 g3 hv=>?_;subst hv;have ra:=(g3.get _ m1 zB2).trans ra;have rb:=(g3.get _ n1 zB2).trans rb;have m1:=zA0 m1 g3.nx;have n1:=zA0 n1 g3.nx;have m6:=Y2.gr g3;have a9:=E4.gr g3;have S4:=W1.gr g3;have g3:=g2.gr g3;have hlen:=@rV x;refine qS (qA ad B0) ?_;refine hK _ _ ?_;clear hK K;generalize dt x=e1 at E0 hlen ⊢;by_cases X4:e1=0
 case neg=>
  have ce:(e1 != 0)=true:=bne_iff_ne.2 X4;rw[zB0 X4] at E0;refine qW (qA ad (qA B0 ce)) ?_;refine qE fun Kx Ky hx hy=>?_;refine cY (fun _=>hx ?_) (fun h=>absurd ce (by simpa using h));clear hx hy Kx Ky;refine qW B0 ?_;exact fin (0) (e1) _ _ qp qp (qd C0) g3 E0
 rw[zB1 (fun h=>h X4)] at E0;obtain ⟨M7,Y'⟩:=hlen X4;refine qW (qA ad (qA B0 X4)) ?_;refine qY ?_;refine R1.aT ?_;refine qG (qA ad (qA t3 (qA B0 (qA rb (qA n1 (qA bm (qA bq we))))))) fun K hK=>?_;refine WE.con (tE H3 p x.1 a9 (by omega)) fun v H4 g4 hv=>?_;subst hv;have ra:=(g4.get _ m1 zB2).trans ra;have rb:=(g4.get _ n1 zB2).trans rb;have m1:=zA0 m1 g4.nx;have n1:=zA0 n1 g4.nx;have n_:=m6.gr g4;have hp4:=a9.gr g4;have X6:=S4.gr g4;have g4:=g3.gr g4;refine qS (qA ad B0) ?_;refine hK _ _ ?_;clear hK K;cases hb:kg x.1 with
 | true=>
  rw[zB0 hb] at E0;refine qY ?_;refine qW B0 ?_;exact fin (0) (24) _ _ qp qp (qd C0) g4 E0
 | false=>
 rw[zB1 (by rw[hb];exact zA8)] at E0;refine qY ?_;refine R1.aT ?_;refine qG (qA ad (qA t2 (qA t3 (qA B0 (qA ra (qA m1 (qA rb (qA n1 (qA ca (qA bm (qA bq Mu))))))))))) fun K hK=>?_;refine WE.con (FR H4 n u p us x.1 n_ hp4 (by omega)) fun v H5 g5 hv=>?_;subst hv;have ra:=(g5.get _ m1 zB2).trans ra;have rb:=(g5.get _ n1 zB2).trans rb;have m1:=zA0 m1 g5.nx;have n1:=zA0 n1 g5.nx;have T9:=n_.gr g5;have E5:=X6.gr g5;have g5:=g4.gr g5;refine qS (qA ad B0) ?_;refine hK _ _ ?_;clear hK K;generalize da n us false 0 0 x.1=s1 at E0 ⊢;obtain ⟨a1,b1,c1⟩:=s1;simp only at E0 ⊢
 by_cases r8:c1=0
 case neg=>
  have ce:(c1 != 0)=true:=bne_iff_ne.2 r8;rw[zB0 r8] at E0;refine qW (qA ad (qA B0 ce)) ?_;refine qE fun Kx Ky hx hy=>?_;refine cY (fun _=>hx ?_) (fun h=>absurd ce (by simpa using h));clear hx hy Kx Ky;refine qW B0 ?_;exact fin (0) (c1) _ _ qp qp (qd C0) g5 E0
 rw[zB1 (fun h=>h r8)] at E0;refine qW (qA ad (qA B0 r8)) ?_;refine qY ?_;refine R1.aT ?_;by_cases M0:(1099511627776:Int)<a1
 ·have cb:((1099511627776:Int)<a1)=True:=eq_true M0;rw[zB0 M0] at E0;refine qW (qA ad (qA B0 cb)) ?_;refine qY ?_;refine qW B0 ?_;exact fin (0) (6) _ _ qp qp (qd C0) g5 E0
 have cb:((1099511627776:Int)<a1)=False:=eq_false M0;rw[zB1 M0] at E0;refine qW (qA ad (qA B0 cb)) ?_;refine qY ?_;refine R1.aT ?_;refine qG (qA ad (qA t2 (qA t3 (qA B0 (qA ra (qA m1 (qA rb (qA n1 (qA ca (qA cm (qA bq Mu))))))))))) fun K hK=>?_;refine WE.con (FR H5 n u q us x.2 T9 E5 (by omega)) fun v H6 g6 hv=>?_;subst hv;have g6:=g5.gr g6;refine qS (qA ad B0) ?_;refine hK _ _ ?_;clear hK K;generalize da n us false 0 0 x.2=s2 at E0 ⊢;obtain ⟨a2,b2,c2⟩:=s2;simp only at E0 ⊢
 by_cases P7:c2=0
 case neg=>
  have ce:(c2 != 0)=true:=bne_iff_ne.2 P7;rw[zB0 P7] at E0;refine qW (qA ad (qA B0 ce)) ?_;refine qE fun Kx Ky hx hy=>?_;refine cY (fun _=>hx ?_) (fun h=>absurd ce (by simpa using h));clear hx hy Kx Ky;refine qW B0 ?_;exact fin (0) (c2) _ _ qp qp (qd C0) g6 E0
 rw[zB1 (fun h=>h P7)] at E0;refine qW (qA ad (qA B0 P7)) ?_;refine qY ?_;refine R1.aT ?_;by_cases U6:b1≤a2
 ·have cg:(b1≤a2)=True:=eq_true U6;rw[zB0 U6] at E0;refine qW (qA ad (qA B0 cg)) ?_;refine qY ?_;refine qW B0 ?_;exact fin (0) (23) _ _ qp qp (qd C0) g6 E0
 have cg:(b1≤a2)=False:=eq_false U6;rw[zB1 U6] at E0;refine qW (qA ad (qA B0 cg)) ?_;refine qY ?_;refine qW B0 ?_;exact fin (IntKind.i64.wrap (a1 - a2)) (0) _ _ qp qp (qd C0) g6 E0
theorem OZ:ak Tryz.prog 25=true:=by kernel_rfl
theorem FW:ak Tryz.prog 84=true:=by kernel_rfl
theorem Iv:ak Tryz.prog 36=true:=by kernel_rfl
theorem SlI.gr {H H':Hp} {v:AC} {l:List Int} (h:SlI H v l) (hg:Gr H H'):SlI H' v l:=SlC.gr h hg
theorem SlI.len {H:Hp} {v:AC} {l:List Int} (h:SlI H v l):cQ H 1 (.one v)=.val (.one (.i .i64 (l.length:Int))) H:=SlC.len h
theorem SlI.lt {H:Hp} {v:AC} {l:List Int} (h:SlI H v l):ltV (.one v) H.nx:=kY h
theorem SlI.nil {H:Hp}:SlI H (.o .nilS) []:=⟨by simp,.inl ⟨rfl,rfl⟩⟩
theorem SlI.open {H:Hp} {v:AC} {l:List Int} (h:SlI H v l) (hn:0<l.length):∃ id g off cells,v=.o (.sl id g off l.length 1)∧id<H.nx∧rowOf (H.get id) g=some cells∧∀ (i:Nat) (x:Int),l[i]?=some x→(cells.drop (off+i*1)).headD (.b false)=.i .i64 x∧off+i*1+1≤cells.length:=by
 obtain ⟨id,g,off,h1,h2,hr⟩:=SlC.pos h hn;have E3:=hr;obtain ⟨cells,h3,h6,h7⟩:=hr;refine ⟨id,g,off,cells,h1,h2,h3,fun i x hx=>?_⟩;obtain ⟨cells',k3,k6,k7⟩:=Rd.at (c:=tK) Ew E3 hx;rw[h3] at k3;cases k3
 refine ⟨?_,k6⟩;cases hd:cells.drop (off+i*1) with
 | nil=>have:=congrArg List.length hd;simp at this;omega
 | cons a r=>
  rw[hd] at k7;have:=(List.cons.inj k7).1;rw[this];rfl
theorem IJ (H:Hp) (v w:AC) (l:List Int) (hv:SlI H v l) (hw:SlI H w l) (hL:l.length≤4611686018427387904):
  Con E2 25 [.one v,.one w] H (fun _=>False) fun r _=>r=.one (.b true):=by
 refine Con.of rfl fun lg=>?_;have hv:SlI ⟨H.t,H.nx,lg⟩ v l:=hv;have hw:SlI ⟨H.t,H.nx,lg⟩ w l:=hw;generalize (⟨H.t,H.nx,lg⟩:Hp)=H at hv hw ⊢;refine C1.body (E:=E2) (nt:=26) (res:=[.tmp 4]) Tryz.func25 rfl rfl rfl rfl rfl fun tm A0=>?_;have h0:=A0 0 _ rfl;have h1:=A0 1 _ rfl;clear A0;have Z0:((l.length:Int)==(l.length:Int))=true:=by simp
 refine qW (qA ad (qA h0 (qA h1 (qA uv (qA hv.len (qA hw.len (qA hv.lt (qA hw.lt Z0)))))))) ?_;refine qY ?_;refine qV ?_;refine R1.aG fun K k1 k2 k3 k4=>?_;refine R1.loop (fun k A H2=>∃ i:Nat,k=l.length - i∧i≤l.length∧H2=H∧slot A.tm 0=.one (v)∧slot A.tm 1=.one (w)∧slot A.tm 5=.one (.i .i64 (i:Int))∧A.nt=26∧A.dfr=[]) ?_ l.length ⟨0,rfl,Nat.zero_le _,rfl,?_⟩
 ·clear h0 h1 tm;rintro k A H2 ⟨i,rfl,hi,rfl,t0,t1,t5,B0,C0⟩;refine qW (qA ad (qA t0 (qA t5 (qA B0 (qA uv (qA hv.len hv.lt)))))) ?_;refine qE fun Kx Ky hx hy=>?_;refine cY (fun hc=>hx ?_) (fun hc=>hy ?_)
  ·clear hx hy Kx Ky;have D0:i<l.length:=by omega
   have ex:=zB4 D0;have Q0:=zC1 D0;have B1:=zC2 D0;have G0:l[i]∈l:=List.getElem_mem D0;generalize l[i]=x at ex Q0 B1 G0;have V0:=zC0 i (by omega);have L1:(x==x)=true:=by simp
   obtain ⟨id,g,off,cells,rfl,hid,P0,L0⟩:=hv.open (by omega);obtain ⟨id',g',off',cells',rfl,F1,I2,X2⟩:=hw.open (by omega);have K0:=L0 i x ex;have L2:=X2 i x ex;refine qV ?_;refine R1.aG fun K2 q1 q2 q3 q4=>?_;refine qH (qA ad (qA t0 (qA t1 (qA t5 (qA B0 (qA fv (qA bV (qA (ixC D0) (qA hid (qA P0 (qA F1 (qA I2 (qA K0.1 (qA K0.2 (qA L2.1 (qA L2.2 L1)))))))))))))))) fun K hK=>?_;refine hK _ _ ?_;clear hK K;refine qY ?_;refine qW B0 ?_;refine q1 _ _ ?_;refine qW (qA B0 (qA t5 V0)) ?_;refine ⟨l.length - (i+1),by omega,i+1,rfl,D0,rfl,?_⟩;repeat' (first|(simp only[aa,Nat.reduceEqDiff,reduceIte,aw,aj,t0,t1,t5,B0,C0];first|done|rfl)|refine ⟨?_,?_⟩)
  clear hx hy Kx Ky;refine qW B0 ?_;refine k2 _ _ ?_;refine qW B0 ?_;exact ⟨_,_,ah (.b true) (.inr rfl) (qd C0) qp,Fr.refl _,fun _=>rfl⟩
 repeat' (first|(simp only[aa,Nat.reduceEqDiff,reduceIte,aw,aj,h0,h1];first|done|rfl)|refine ⟨?_,?_⟩)
theorem Au (H:Hp) (v w:AC) (l:List Gp) (hv:aM H v l) (hw:aM H w l) (hL:l.length≤4611686018427387904):
  Con E2 84 [.one v,.one w] H (fun _=>False) fun r _=>r=.one (.b true):=by
 refine Con.of rfl fun lg=>?_;have hv:aM ⟨H.t,H.nx,lg⟩ v l:=hv;have hw:aM ⟨H.t,H.nx,lg⟩ w l:=hw;generalize (⟨H.t,H.nx,lg⟩:Hp)=H at hv hw ⊢;refine C1.body (E:=E2) (nt:=26) (res:=[.tmp 4]) Tryz.func84 rfl rfl rfl rfl rfl fun tm A0=>?_;have h0:=A0 0 _ rfl;have h1:=A0 1 _ rfl;clear A0;have Z0:((l.length:Int)==(l.length:Int))=true:=by simp
 refine qW (qA ad (qA h0 (qA h1 (qA bM (qA hv.len (qA hw.len (qA hv.lt (qA hw.lt Z0)))))))) ?_;refine qY ?_;refine qV ?_;refine R1.aG fun K k1 k2 k3 k4=>?_;refine R1.loop (fun k A H2=>∃ i:Nat,k=l.length - i∧i≤l.length∧H2=H∧slot A.tm 0=.one (v)∧slot A.tm 1=.one (w)∧slot A.tm 5=.one (.i .i64 (i:Int))∧A.nt=26∧A.dfr=[]) ?_ l.length ⟨0,rfl,Nat.zero_le _,rfl,?_⟩
 ·clear h0 h1 tm;rintro k A H2 ⟨i,rfl,hi,rfl,t0,t1,t5,B0,C0⟩;refine qW (qA ad (qA t0 (qA t5 (qA B0 (qA bM (qA hv.len hv.lt)))))) ?_;refine qE fun Kx Ky hx hy=>?_;refine cY (fun hc=>hx ?_) (fun hc=>hy ?_)
  ·clear hx hy Kx Ky;have D0:i<l.length:=by omega
   have ex:=zB4 D0;have Q0:=zC1 D0;have B1:=zC2 D0;have G0:l[i]∈l:=List.getElem_mem D0;generalize l[i]=x at ex Q0 B1 G0;have V0:=zC0 i (by omega);obtain ⟨id,g,off,cells,rfl,hid,P0,L0⟩:=hv.open (by omega);obtain ⟨id',g',off',cells',rfl,F1,I2,X2⟩:=hw.open (by omega);have K0:=L0 i x ex;have L2:=X2 i x ex;refine qV ?_;refine R1.aG fun K2 q1 q2 q3 q4=>?_;repeat refine R1.aE ?_
   (first|refine R1.Sq (by kernel_rfl) fun K hK=>?_|refine R1.TJ (by kernel_rfl) fun K hK=>?_)
   simp only[qB,aC,Nat.reduceLT,ad,t0,t1,t5,B0,cB,dh,dM D0,hid,P0,F1,I2,K0.all,K0.le,L2.all,L2.le,gpC,sn Js,beq_self_eq_true,Bool.and_self];refine hK _ _ ?_;clear hK K;refine qY ?_;refine qW B0 ?_;refine q1 _ _ ?_;refine qW (qA B0 (qA t5 V0)) ?_;refine ⟨l.length - (i+1),by omega,i+1,rfl,D0,rfl,?_⟩;repeat' (first|(simp only[aa,Nat.reduceEqDiff,reduceIte,aw,aj,t0,t1,t5,B0,C0];first|done|rfl)|refine ⟨?_,?_⟩)
  clear hx hy Kx Ky;refine qW B0 ?_;refine k2 _ _ ?_;refine qW B0 ?_;exact ⟨_,_,ah (.b true) (.inr rfl) (qd C0) qp,Fr.refl _,fun _=>rfl⟩
 repeat' (first|(simp only[aa,Nat.reduceEqDiff,reduceIte,aw,aj,h0,h1];first|done|rfl)|refine ⟨?_,?_⟩)
theorem Bu (H:Hp) (a b c d:AC) (x:Nm) (ha:aM H a x.1) (hb:aM H b x.2) (hc:aM H c x.1) (hd:aM H d x.2) (hL1:x.1.length≤4611686018427387904) (hL2:x.2.length≤4611686018427387904):
  Con E2 36 [.agg [a,b],.agg [c,d]] H (fun _=>False) fun r _=>r=.one (.b true):=by
 refine Con.of rfl fun lg=>?_;have ha:aM ⟨H.t,H.nx,lg⟩ a x.1:=ha;have hb:aM ⟨H.t,H.nx,lg⟩ b x.2:=hb;have hc:aM ⟨H.t,H.nx,lg⟩ c x.1:=hc;have hd:aM ⟨H.t,H.nx,lg⟩ d x.2:=hd;generalize (⟨H.t,H.nx,lg⟩:Hp)=H at ha hb hc hd ⊢;refine C1.body (E:=E2) (nt:=17) (res:=[.tmp 4]) Tryz.func36 rfl rfl rfl rfl rfl fun tm A0=>?_;have h0:=A0 0 _ rfl;have h1:=A0 1 _ rfl;clear A0;refine qG (qA ad (qA h0 h1)) fun K hK=>?_;refine hK _ _ ?_;clear hK K;refine R1.gen (fun A1 H1=>Gr H H1∧H.nx+1<H1.nx∧H1.get H.nx=some (.arr [a,b] 66 0 0)∧H1.get (H.nx+1)=some (.arr [c,d] 66 0 0)∧slot A1.tm 2=.one ((.o (.ptr H.nx 0 0 2)))∧slot A1.tm 3=.one ((.o (.ptr (H.nx+1) 0 0 2)))∧A1.nt=17∧A1.dfr=[])
  ⟨((Fr.refl _).new _).new _,?_⟩ ?_
 ·exact qU
 rintro A1 H1 ⟨g1,n1,ra,rb,t2,t3,B0,C0⟩;clear h0 h1 tm;have m1:H.nx<H1.nx:=by omega
 have ha:=ha.gr g1;have hb:=hb.gr g1;have hc:=hc.gr g1;have hd:=hd.gr g1;refine qG (qA ad (qA t2 (qA t3 (qA B0 (qA ra (qA m1 (qA rb (qA n1 (qA bm (qA bq FW)))))))))) fun K hK=>?_;refine WE.con (Au H1 a c x.1 ha hc hL1) fun v H2 g2 hv=>?_;subst hv;have ra:=(g2.get _ m1 zB2).trans ra;have m1:=zA0 m1 g2.nx;have rb:=(g2.get _ n1 zB2).trans rb;have n1:=zA0 n1 g2.nx;have hb:=hb.gr g2;have hd:=hd.gr g2;refine qS (qA ad (qA t2 (qA t3 (qA B0 (qA ra (qA m1 (qA rb (qA n1 (qA cm (qA bq FW)))))))))) ?_;refine WE.con (Au H2 b d x.2 hb hd hL2) fun v H3 g3 hv=>?_;subst hv;refine qS (qA ad B0) ?_;refine hK _ _ ?_;clear hK K;refine qV ?_;exact ⟨_,_,ah (.b true) (.inr rfl) (qd C0) qp,(g1.gr g2).gr g3,fun _=>rfl⟩
abbrev Cl:=Int×List UInt8×List UInt8×Nm
def ClR (H:Hp) (c:List AC) (x:Cl):Prop:=∃ p q,c=[.i .i64 x.1,.o (.str x.2.1),.o (.str x.2.2.1),p,q]∧aM H p x.2.2.2.1∧aM H q x.2.2.2.2
theorem ClR.gr {H H':Hp} {c:List AC} {x:Cl} (h:ClR H c x) (hg:Gr H H'):ClR H' c x:=let ⟨p,q,h1,h2,h3⟩:=h;⟨p,q,h1,h2.gr hg,h3.gr hg⟩
theorem tS {k:Int} {s t:List UInt8} {p q:AC}:ju [.i .i64 k,.o (.str s),.o (.str t),p,q]=(AV.one p).ids++(AV.one q).ids:=by
 simp only[sy,vb,TG,NC,List.nil_append,List.append_nil]
theorem jR:FrR ClR:=fun Y H H' c x ⟨p,q,h1,h2,h3⟩ hf hi=>by
 subst h1;rw[tS] at hi;exact ⟨p,q,rfl,SlC.fr h2 hf fun i h=>hi i (List.mem_append_left _ h),SlC.fr h3 hf fun i h=>hi i (List.mem_append_right _ h)⟩
theorem iQ:LtR ClR:=fun H c x ⟨p,q,h1,h2,h3⟩ i hi=>by
 subst h1;rw[tS] at hi;rcases List.mem_append.1 hi with h|h
 ·exact h2.lt i h
 exact h3.lt i h
def jb (H:Hp) (v:AC) (l:List Cl):Prop:=SlR ClR 5 H v l
theorem jb.gr {H H':Hp} {v:AC} {l:List Cl} (h:jb H v l) (hg:Gr H H'):jb H' v l:=SlR.dY h hg.nx (fun i hi=>hg.get i hi zB2) fun _ _ h=>h.gr hg
theorem jb.len {H:Hp} {v:AC} {l:List Cl} (h:jb H v l):cQ H 1 (.one v)=.val (.one (.i .i64 (l.length:Int))) H:=SlR.len h
theorem jb.lt {H:Hp} {v:AC} {l:List Cl} (h:jb H v l):ltV (.one v) H.nx:=SlR.lt h
structure ClAt (H:Hp) (cells:List AC) (o:Nat) (x:Cl) (p q:AC):Prop where
 of1:aM H p x.2.2.2.1
 of2:aM H q x.2.2.2.2
 all:(cells.drop o).take 5=[.i .i64 x.1,.o (.str x.2.1),.o (.str x.2.2.1),p,q]
 le:o+5≤cells.length
 le1:o+1≤cells.length
 le2:o+1+1≤cells.length
 le3:o+2+1≤cells.length
 le4:o+3+2≤cells.length
 f1:(cells.drop o).headD (.b false)=.i .i64 x.1
 f2:(cells.drop (o+1)).headD (.b false)=.o (.str x.2.1)
 f3:(cells.drop (o+2)).headD (.b false)=.o (.str x.2.2.1)
 f4:(cells.drop (o+3)).take 2=[p,q]
theorem YA {cells:List AC} {o:Nat} {a b c d e:AC} (h:(cells.drop o).take 5=[a,b,c,d,e]):(cells.drop o).headD (.b false)=a∧(cells.drop (o+1)).headD (.b false)=b∧(cells.drop (o+2)).headD (.b false)=c∧(cells.drop (o+3)).take 2=[d,e]:=by
 rw[←List.drop_drop,←List.drop_drop,←List.drop_drop];match hd:cells.drop o,h with
 | x0::x1::x2::x3::x4::r,h=>
  simp only[List.take_succ_cons,List.take_zero,List.cons.injEq,and_true] at h;obtain ⟨rfl,rfl,rfl,rfl,rfl⟩:=h;exact ⟨rfl,rfl,rfl,rfl⟩
theorem jb.open {H:Hp} {v:AC} {l:List Cl} (h:jb H v l) (hn:0<l.length):∃ id g off cells,v=.o (.sl id g off l.length 5)∧id<H.nx∧rowOf (H.get id) g=some cells∧∀ (i:Nat) (x:Cl),l[i]?=some x→∃ p q,ClAt H cells (off+i*5) x p q:=by
 obtain ⟨id,g,off,cells,h1,h2,h3,h4⟩:=SlR.open h hn;refine ⟨id,g,off,cells,h1,h2,h3,fun i x hx=>?_⟩;obtain ⟨h5,c,h6,h7,p,q,rfl,h8,h9⟩:=h4 i x hx;obtain ⟨d1,d2,d3,d4⟩:=YA h6;exact ⟨p,q,h8,h9,h6,h5,by omega,by omega,by omega,by omega,d1,d2,d3,d4⟩
abbrev Rl:=Int×List Int
def RlR (H:Hp) (c:List AC) (x:Rl):Prop:=∃ u,c=[.i .i64 x.1,u]∧SlI H u x.2
theorem RlR.gr {H H':Hp} {c:List AC} {x:Rl} (h:RlR H c x) (hg:Gr H H'):RlR H' c x:=let ⟨u,h1,h2⟩:=h;⟨u,h1,h2.gr hg⟩
theorem tU {k:Int} {u:AC}:ju [.i .i64 k,u]=(AV.one u).ids:=by
 simp only[sy,vb,TG,List.nil_append,List.append_nil]
theorem mL:FrR RlR:=fun Y H H' c x ⟨u,h1,h2⟩ hf hi=>by
 subst h1;rw[tU] at hi;exact ⟨u,rfl,SlC.fr h2 hf hi⟩
theorem kU:LtR RlR:=fun H c x ⟨u,h1,h2⟩ i hi=>by
 subst h1;rw[tU] at hi;exact h2.lt i hi
def jt (H:Hp) (v:AC) (l:List Rl):Prop:=SlR RlR 2 H v l
theorem jt.gr {H H':Hp} {v:AC} {l:List Rl} (h:jt H v l) (hg:Gr H H'):jt H' v l:=SlR.dY h hg.nx (fun i hi=>hg.get i hi zB2) fun _ _ h=>h.gr hg
theorem jt.len {H:Hp} {v:AC} {l:List Rl} (h:jt H v l):cQ H 1 (.one v)=.val (.one (.i .i64 (l.length:Int))) H:=SlR.len h
theorem jt.lt {H:Hp} {v:AC} {l:List Rl} (h:jt H v l):ltV (.one v) H.nx:=SlR.lt h
structure RlAt (H:Hp) (cells:List AC) (o:Nat) (x:Rl) (u:AC):Prop where
 of:SlI H u x.2
 all:(cells.drop o).take 2=[.i .i64 x.1,u]
 le:o+2≤cells.length
 le1:o+1≤cells.length
 le2:o+1+1≤cells.length
 f1:(cells.drop o).headD (.b false)=.i .i64 x.1
 f2:(cells.drop (o+1)).headD (.b false)=u
theorem Yt {cells:List AC} {o:Nat} {a b:AC} (h:(cells.drop o).take 2=[a,b]):(cells.drop o).headD (.b false)=a∧(cells.drop (o+1)).headD (.b false)=b:=by
 rw[←List.drop_drop];match hd:cells.drop o,h with
 | x0::x1::r,h=>
  simp only[List.take_succ_cons,List.take_zero,List.cons.injEq,and_true] at h;obtain ⟨rfl,rfl⟩:=h;exact ⟨rfl,rfl⟩
theorem jt.open {H:Hp} {v:AC} {l:List Rl} (h:jt H v l) (hn:0<l.length):∃ id g off cells,v=.o (.sl id g off l.length 2)∧id<H.nx∧rowOf (H.get id) g=some cells∧∀ (i:Nat) (x:Rl),l[i]?=some x→∃ u,RlAt H cells (off+i*2) x u:=by
 obtain ⟨id,g,off,cells,h1,h2,h3,h4⟩:=SlR.open h hn;refine ⟨id,g,off,cells,h1,h2,h3,fun i x hx=>?_⟩;obtain ⟨h5,c,h6,h7,u,rfl,h8⟩:=h4 i x hx;obtain ⟨d1,d2⟩:=Yt h6;exact ⟨u,h8,h6,h5,by omega,by omega,d1,d2⟩
abbrev Pz:=List Cl×List Rl
structure PzB (p:Pz):Prop where
 c:p.1.length*88≤140737488355328
 r:p.2.length*32≤140737488355328
 t:∀ x∈p.1,x.2.2.2.1.length*32≤140737488355328∧x.2.2.2.2.length*32≤140737488355328
 p:∀ x∈p.2,x.2.length*8≤140737488355328
theorem zQ (H:Hp) (p q:AC) (x:Nm) (hp:aM H p x.1) (hq:aM H q x.2) (hL:x.1.length*32≤140737488355328∧x.2.length*32≤140737488355328):
  Con E2 74 [.agg [p,q]] H (fun _=>False) fun r H'=>∃ p' q',r=.agg [p',q']∧aM H' p' x.1∧aM H' q' x.2∧(∀ id∈(AV.one p').ids,H.nx≤id)∧∀ id∈(AV.one q').ids,H.nx≤id:=by
 refine Con.of rfl fun lg=>?_;have hp:aM ⟨H.t,H.nx,lg⟩ p x.1:=hp;have hq:aM ⟨H.t,H.nx,lg⟩ q x.2:=hq;have e0:H.nx=(⟨H.t,H.nx,lg⟩:Hp).nx:=rfl;rw[e0];clear e0;generalize (⟨H.t,H.nx,lg⟩:Hp)=H at hp hq ⊢;refine C1.body (E:=E2) (nt:=14) (res:=[.cell 2 66]) Tryz.func74 rfl rfl rfl rfl rfl fun tm A0=>?_;have h0:=A0 0 _ rfl;clear A0;refine qG (qA ad (qA h0 wO)) fun K hK=>?_;refine hK _ _ ?_;clear hK K;refine R1.gen (fun A1 H1=>Gr H H1∧H.nx+1<H1.nx∧H1.get H.nx=some (.arr [p,q] 66 0 0)∧H1.get (H.nx+1)=some (.arr [.o .nilS,.o .nilS] 66 0 0)∧slot A1.tm 1=.one ((.o (.ptr H.nx 0 0 2)))∧slot A1.tm 2=.one ((.o (.ptr (H.nx+1) 0 0 2)))∧A1.nt=14∧A1.dfr=[])
  ⟨((Fr.refl _).new _).new _,?_⟩ ?_
 ·exact qU
 rintro A1 H1 ⟨g1,n1,r1,r2,t1,t2,B0,C0⟩;clear h0 tm;have J4:aM H1 p x.1:=hp.gr g1;have u7:aM H1 q x.2:=hq.gr g1;have l1:H.nx<H1.nx:=by omega
 have hlp:∀ id∈(AV.one p).ids,id<H.nx:=hp.lt;have hlq:∀ id∈(AV.one q).ids,id<H.nx:=hq.lt;obtain ⟨z,hz,X0⟩:=PL;refine qG (qA ad B0) fun K hK=>?_;refine hK _ _ ?_;clear hK K;repeat refine R1.aE ?_
 (first|refine R1.ED (ms:=[0,0,2,7,0,0,32,127,255,511]) (by kernel_rfl) (by kernel_rfl) fun K hK=>?_|refine R1.e_drw (ms:=[0,0,2,7,0,0,32,127,255,511]) (by kernel_rfl) (by kernel_rfl) fun K hK=>?_)
 simp (config:={decide:=true}) only [qB,aC,Nat.reduceLT,Nat.reduceLeDiff,Nat.reduceAdd,Nat.reduceSub,qD,cP,bB,ad,t1,B0,r1,l1,bm,cm,bq]
 refine BN cB Kp hz X0 (by decide) J4 (by omega) (fun id h=>by have:=hlp id h;simp (config:={decide:=true}) [bB,cP] <;> omega) fun v c1 H2 hv hvn g2 hc=>?_;subst hc;have r1:H2.get H.nx=some (.arr [p,q] 66 0 0):=by rw[g2.get _ l1 zB2];exact r1
 have l2:H.nx<H2.nx:=zA0 l1 g2.nx;have r2:H2.get (H.nx+1)=some (.arr [.o .nilS,.o .nilS] 66 0 0):=by rw[g2.get _ n1 zB2];exact r2
 have n2:H.nx+1<H2.nx:=zA0 n1 g2.nx;have W1:aM H2 q x.2:=u7.gr g2;simp (config:={decide:=true}) only [qB,Nat.reduceLT,Nat.reduceAdd,qD,cP,bB,t1,B0,r1,l2,l1]
 refine BN cB Kp hz X0 (by decide) W1 (by omega) (fun id h=>by have:=hlq id h;simp (config:={decide:=true}) [bB,cP] <;> omega) fun w c1 H3 hw hwn g3 hc=>?_;subst hc;have r2:H3.get (H.nx+1)=some (.arr [.o .nilS,.o .nilS] 66 0 0):=by rw[g3.get _ n2 zB2];exact r2
 have n3:H.nx+1<H3.nx:=zA0 n2 g3.nx;have G5:aM H3 v x.1:=aM.gr hv g3;simp (config:={decide:=true}) only [qB,Nat.reduceLeDiff,Nat.reduceAdd,qD,cP,ee,bB,t2,B0,MR wO Co,rk,qb,CW,r2,n3]
 refine hK _ _ ?_;clear hK K;refine qV ?_;have n12:=g2.nx;have keep:∀ {u:AC} {l:List Gp},aM H3 u l→(∀ id∈(AV.one u).ids,H1.nx≤id)→aM (H3.mod (H.nx+1) (.arr [v,w] 66 0 0)) u l:=fun hu hi=>SlC.fr hu (X:=fun k=>k=H.nx+1) ((Fr.refl _).mod _ (.inr rfl)) fun id h hh=>by have:=hi id h;omega
 exact ⟨_,_,eF (id:=H.nx+1) (g:=0) mD (.inr rfl) (by simp only[aj,C0];rfl) (by simp only[aa,Nat.reduceEqDiff,reduceIte,t2]) (by rw[al rfl];exact bF (zA1 _) (zA1 _)) (zA1 _) rfl,((g1.gr g2).gr g3).mod _ (.inl (Nat.le_succ _)),fun _=>⟨v,w,rfl,keep G5 hvn,keep hw fun i h=>by have:=hwn i h;omega,fun id h=>by have:=hvn id h;omega,fun id h=>by have:=hwn id h;omega⟩⟩
theorem Pu:ak Tryz.prog 11=true:=by kernel_rfl
theorem pG (s:List UInt8):lEq s s=true:=by rw[bO,beq_self_eq_true]
theorem Jz (H:Hp) (a b c d:AC) (p:Pz) (ha:jb H a p.1) (hb:jt H b p.2) (hc:jb H c p.1) (hd:jt H d p.2) (hB:PzB p):
  Con E2 11 [.agg [a,b],.agg [c,d]] H (fun _=>False) fun r _=>r=.one (.b true):=by
 refine Con.of rfl fun lg=>?_;have ha:jb ⟨H.t,H.nx,lg⟩ a p.1:=ha;have hb:jt ⟨H.t,H.nx,lg⟩ b p.2:=hb;have hc:jb ⟨H.t,H.nx,lg⟩ c p.1:=hc;have hd:jt ⟨H.t,H.nx,lg⟩ d p.2:=hd;generalize (⟨H.t,H.nx,lg⟩:Hp)=H at ha hb hc hd ⊢;refine C1.body (E:=E2) (nt:=105) (res:=[.tmp 4]) Tryz.func11 rfl rfl rfl rfl rfl fun tm A0=>?_;have h0:=A0 0 _ rfl;have h1:=A0 1 _ rfl;clear A0;obtain ⟨lc,lr⟩:=p;have hB1:lc.length*88≤140737488355328:=hB.c;have hB2:lr.length*32≤140737488355328:=hB.r;have hB3:∀ x∈lc,x.2.2.2.1.length*32≤140737488355328∧x.2.2.2.2.length*32≤140737488355328:=hB.t;have hB4:∀ x∈lr,x.2.length*8≤140737488355328:=hB.p;clear hB;simp only at ha hb hc hd
 refine qG (qA ad (qA h0 h1)) fun K hK=>?_;refine hK _ _ ?_;clear hK K;refine R1.gen (fun A1 H1=>Gr H H1∧H.nx+1<H1.nx∧H1.get H.nx=some (.arr [a,b] 37 0 0)∧H1.get (H.nx+1)=some (.arr [c,d] 37 0 0)∧slot A1.tm 2=.one ((.o (.ptr H.nx 0 0 2)))∧slot A1.tm 3=.one ((.o (.ptr (H.nx+1) 0 0 2)))∧A1.nt=105∧A1.dfr=[])
  ⟨((Fr.refl _).new _).new _,?_⟩ ?_
 ·exact qU
 rintro A1 H1 ⟨g1,m2,r1,r2,t2,t3,B0,C0⟩;clear h0 h1 tm;have m1:H.nx<H1.nx:=by omega
 obtain ⟨N,hN⟩:∃ N,N=H.nx:=⟨_,rfl⟩;rw[←hN] at m1 m2 r1 r2 t2 t3;have ha:=ha.gr g1;have hb:=hb.gr g1;have hc:=hc.gr g1;have hd:=hd.gr g1;have s1:=r1;have s2:=r2;have o1:=m1;have o2:=m2;have e1:((lc.length:Int)==lc.length)=true:=by simp
 have e2:((lr.length:Int)==lr.length)=true:=by simp
 refine qW (qA ad (qA t2 (qA t3 (qA B0 (qA r1 (qA m1 (qA r2 (qA m2 (qA gS (qA gT (qA ng (qA mH (qA qM (qA qc (qA ha.len (qA ha.lt (qA hb.len (qA hb.lt (qA hc.len (qA hc.lt (qA hd.len (qA hd.lt (qA e1 e2))))))))))))))))))))))) ?_;refine qY ?_;refine qW B0 ?_;refine R1.aG fun K k1 k2 k3 k4=>?_;refine R1.loop (fun k A H2=>∃ i:Nat,k=lc.length - i∧i≤lc.length∧Gr H1 H2∧slot A.tm 2=.one ((.o (.ptr N 0 0 2)))∧slot A.tm 3=.one ((.o (.ptr (N+1) 0 0 2)))∧slot A.tm 5=.one (.i .i64 (i:Int))∧A.nt=105∧A.dfr=[]) ?_ lc.length ⟨0,rfl,Nat.zero_le _,Fr.refl _,?_⟩
 ·clear t2 t3 B0 C0 A1;rintro k A H2 ⟨i,rfl,hi,g2,t2,t3,t5,B0,C0⟩;have ha2:=ha.gr g2;have P7:=hc.gr g2;have r1:=(g2.get _ m1 zB2).trans r1;have r2:=(g2.get _ m2 zB2).trans r2;have m1:=zA0 m1 g2.nx;have m2:=zA0 m2 g2.nx;refine qW (qA ad (qA t2 (qA t5 (qA B0 (qA r1 (qA m1 (qA gS (qA ng (qA qM (qA ha2.len ha2.lt)))))))))) ?_;refine qE fun Kx Ky hx hy=>?_;refine cY (fun hc=>hx ?_) (fun hc=>hy ?_)
  ·clear hx hy Kx Ky;have D0:i<lc.length:=by omega
   have ex:lc[i]?=some lc[i]:=zB4 D0;have Q0:lc.drop i=lc[i]::lc.drop (i+1):=List.drop_eq_getElem_cons D0;have B1:lc.take (i+1)=lc.take i++[lc[i]]:=List.take_succ_eq_append_getElem D0;have G0:lc[i]∈lc:=List.getElem_mem D0;generalize lc[i]=x at ex Q0 B1 G0;have V0:=zC0 i (by omega);obtain ⟨hBx1,hBx2⟩:=hB3 x G0;obtain ⟨id,g,off,cells,rfl,hid,P0,L0⟩:=ha2.open (by omega);obtain ⟨id',g',off',cells',rfl,F1,I2,X2⟩:=P7.open (by omega);obtain ⟨p,q,K0⟩:=L0 i x ex;obtain ⟨p',q',L2⟩:=X2 i x ex;refine qV ?_;refine R1.aG fun K2 q1 q2 q3 q4=>?_;repeat refine R1.aE ?_
   (first|refine R1.ED (ms:=[0,1,0,7,15,0,32,0,224,480,0,0,3103,8191]) (by kernel_rfl) (by kernel_rfl) fun K hK=>?_|refine R1.e_drw (ms:=[0,1,0,7,15,0,32,0,224,480,0,0,3103,8191]) (by kernel_rfl) (by kernel_rfl) fun K hK=>?_)
   simp (config:={decide:=true}) only [qB,aC,Nat.reduceLT,Nat.reduceLeDiff,Nat.reduceAdd,Nat.reduceSub,qD,cP,ee,bB,ad,t2,t3,t5,B0,r1,m1,r2,m2,gS,ng,mZ,CJ,CA,uk,dM D0,hid,P0,K0.all,K0.le,F1,I2,L2.all,L2.le]
   refine hK _ _ ?_;clear hK K;refine R1.gen (fun A3 H3=>Gr H2 H3∧H2.nx+1<H3.nx∧H3.get H2.nx=some (.arr [.i .i64 x.1,.o (.str x.2.1),.o (.str x.2.2.1),p,q] 84 0 0)∧H3.get (H2.nx+1)=some (.arr [.i .i64 x.1,.o (.str x.2.1),.o (.str x.2.2.1),p',q'] 84 0 0)∧slot A3.tm 2=.one ((.o (.ptr N 0 0 2)))∧slot A3.tm 3=.one ((.o (.ptr (N+1) 0 0 2)))∧slot A3.tm 5=.one (.i .i64 (i:Int))∧slot A3.tm 6=.one ((.o (.ptr H2.nx 0 0 5)))∧slot A3.tm 7=.one ((.o (.ptr (H2.nx+1) 0 0 5)))∧A3.nt=105∧A3.dfr=[])
    ⟨((((Fr.refl _).new _).new _).mod _ (.inl (zA1 _))).mod _ (.inl (Nat.le_succ _)),?_⟩ ?_
   ·exact qZ (qA t2 (qA t3 (qA t5 (qA B0 C0))))
   clear t2 t3 t5 B0 C0 A;rintro A H3 ⟨g3,n3,rx,ry,t2,t3,t5,t6,t7,B0,C0⟩;obtain ⟨M,hM⟩:∃ M,M=H2.nx:=⟨_,rfl⟩;rw[←hM] at rx ry n3 t6 t7;have n3':M<H3.nx:=by omega
   have ei:(x.1==x.1)=true:=by simp
   have es:=pG x.2.1;have et:=pG x.2.2.1;refine qG (qA ad (qA t6 (qA t7 (qA B0 (qA rx (qA ry (qA n3 (qA n3' (qA sJ (qA rN (qA nX (qA oh (qA bV (qA aO (qA mD (qA ei (qA es (qA et Iv)))))))))))))))))) fun K hK=>?_;refine WE.con (Bu H3 p q p' q' x.2.2.2 (K0.of1.gr g3) (K0.of2.gr g3) (L2.of1.gr g3) (L2.of2.gr g3) (by omega) (by omega)) fun w H4 g4 hw=>?_;subst hw;refine qS (qA ad B0) ?_;refine hK _ _ ?_;clear hK K;refine qY ?_;refine qW B0 ?_;refine q1 _ _ ?_;refine qW (qA B0 (qA t5 V0)) ?_;refine ⟨lc.length - (i+1),by omega,i+1,rfl,D0,g2.gr (g3.gr g4),?_⟩;repeat' (first|(simp only[aa,Nat.reduceEqDiff,reduceIte,aw,aj,t2,t3,t5,B0,C0];first|done|rfl)|refine ⟨?_,?_⟩)
  clear hx hy Kx Ky;refine qW B0 ?_;refine k2 _ _ ?_;clear k1 k2 k3 k4 K ha2 P7;have k8:=hb.gr g2;have hd2:=hd.gr g2;refine qW B0 ?_;refine R1.aG fun K k1 k2 k3 k4=>?_;refine R1.loop (fun k A H2=>∃ i:Nat,k=lr.length - i∧i≤lr.length∧Gr H1 H2∧slot A.tm 2=.one ((.o (.ptr N 0 0 2)))∧slot A.tm 3=.one ((.o (.ptr (N+1) 0 0 2)))∧slot A.tm 8=.one (.i .i64 (i:Int))∧A.nt=105∧A.dfr=[]) ?_ lr.length ⟨0,rfl,Nat.zero_le _,g2,?_⟩
  ·clear t2 t3 t5 B0 C0 A k8 hd2 r1 r2 g2 m1 m2 hi hc i H2;rintro k A H2 ⟨i,rfl,hi,g2,t2,t3,t8,B0,C0⟩;have k8:=hb.gr g2;have hd2:=hd.gr g2;have s1:=(g2.get _ o1 zB2).trans s1;have o1:=zA0 o1 g2.nx;have s2:=(g2.get _ o2 zB2).trans s2;have o2:=zA0 o2 g2.nx;refine qW (qA ad (qA t2 (qA t8 (qA B0 (qA s1 (qA o1 (qA gT (qA mH (qA qc (qA k8.len k8.lt)))))))))) ?_;refine qE fun Kx Ky hx hy=>?_;refine cY (fun hc=>hx ?_) (fun hc=>hy ?_)
   ·clear hx hy Kx Ky;have D0:i<lr.length:=by omega
    have ex:lr[i]?=some lr[i]:=zB4 D0;have Q0:lr.drop i=lr[i]::lr.drop (i+1):=List.drop_eq_getElem_cons D0;have B1:lr.take (i+1)=lr.take i++[lr[i]]:=List.take_succ_eq_append_getElem D0;have G0:lr[i]∈lr:=List.getElem_mem D0;generalize lr[i]=x at ex Q0 B1 G0;have V0:=zC0 i (by omega);have hBx:=hB4 x G0;obtain ⟨id,g,off,cells,rfl,hid,P0,L0⟩:=k8.open (by omega);obtain ⟨id',g',off',cells',rfl,F1,I2,X2⟩:=hd2.open (by omega);obtain ⟨u,K0⟩:=L0 i x ex;obtain ⟨u',L2⟩:=X2 i x ex;have ei:(x.1==x.1)=true:=by simp
    refine qV ?_;refine R1.aG fun K2 q1 q2 q3 q4=>?_;refine qG (qA ad (qA t2 (qA t3 (qA t8 (qA B0 (qA s1 (qA o1 (qA s2 (qA o2 (qA gT (qA mH (qA lZ (qA rZ (qA sb (qA bV (qA uh (qA (ixC D0) (qA hid (qA P0 (qA K0.f1 (qA K0.f2 (qA K0.le1 (qA K0.le2 (qA F1 (qA I2 (qA L2.f1 (qA L2.f2 (qA L2.le1 (qA L2.le2 (qA ei OZ)))))))))))))))))))))))))))))) fun K hK=>?_;refine WE.con (IJ H2 u u' x.2 K0.of L2.of (by omega)) fun w H4 g4 hw=>?_;subst hw;refine qS (qA ad B0) ?_;refine hK _ _ ?_;clear hK K;refine qY ?_;refine qW B0 ?_;refine q1 _ _ ?_;refine qW (qA B0 (qA t8 V0)) ?_;refine ⟨lr.length - (i+1),by omega,i+1,rfl,D0,g2.gr g4,?_⟩;repeat' (first|(simp only[aa,Nat.reduceEqDiff,reduceIte,aw,aj,t2,t3,t8,B0,C0];first|done|rfl)|refine ⟨?_,?_⟩)
   clear hx hy Kx Ky;refine qW B0 ?_;refine k2 _ _ ?_;refine qW B0 ?_;exact ⟨_,_,ah (.b true) (.inr rfl) (qd C0) qp,g1.gr g2,fun _=>rfl⟩
  repeat' (first|(simp only[aa,Nat.reduceEqDiff,reduceIte,aw,aj,t2,t3,B0,C0];first|done|rfl)|refine ⟨?_,?_⟩)
 repeat' (first|(simp only[aa,Nat.reduceEqDiff,reduceIte,aw,aj,t2,t3,B0,C0];first|done|rfl)|refine ⟨?_,?_⟩)
theorem Vw:ak Tryz.prog 37=true:=by kernel_rfl
def dW (o:Option (List Lad)) (s:List UInt8):Lad:=match o with
 | none=>([],[])
 | some ls=>(gV 0 ls s).elim ([],[]) fun i=>ls.getD i ([],[])
theorem GG.of {H:Hp} {c:List AC} {o:Option (List Lad)} {s:List UInt8} (h:GG H c o s):∃ u,c=[.o (.str (dW o s).1),u]∧SlP H u (dW o s).2:=by
 obtain ⟨h1,h2⟩:=h;cases o with
 | none=>exact ⟨_,h1 (by rw[Oq];decide),SlP.nil⟩
 | some ls=>
  rw[iN] at h1;cases hi:gV 0 ls s with
  | none=>
   rw[hi] at h1;have e:dW (some ls) s=([],[]):=by unfold dW;simp only[hi,Option.elim_none]
   rw[e];exact ⟨_,h1 (by decide),SlP.nil⟩
  | some i=>
   obtain ⟨x,hx,_⟩:=IV hi;have e:dW (some ls) s=x:=by unfold dW;simp only[hi,Option.elim_some];rw[List.getD_eq_getElem?_getD,hx];rfl
   rw[e];exact h2 ls i x rfl hi hx
def iy (o:Option (List Lad)) (x:Cl):Int×Int:=if fT o x.2.2.1≠0 then (0,fT o x.2.2.1) else eu (dW o x.2.2.1).1 (dW o x.2.2.1).2 x.2.2.2
theorem SH (H:Hp) (k p q:AC) (o:Option (List Lad)) (x:Cl) (hk:cU H k o) (hL:∀ ls,o=some ls→∀ x∈ls,x.2.length≤1000000) (hp:aM H p x.2.2.2.1) (hq:aM H q x.2.2.2.2):
  Con E2 37 [.one k,.agg [.i .i64 x.1,.o (.str x.2.1),.o (.str x.2.2.1),p,q]] H (fun _=>False) fun r _=>r=.tup [(false,[.i .i64 (iy o x).1]),(false,[.i .i64 (iy o x).2])]:=by
 refine Con.of rfl fun lg=>?_;have hk:cU ⟨H.t,H.nx,lg⟩ k o:=cU.same (H:=H) rfl rfl hk;have hp:aM ⟨H.t,H.nx,lg⟩ p x.2.2.2.1:=hp;have hq:aM ⟨H.t,H.nx,lg⟩ q x.2.2.2.2:=hq;generalize (⟨H.t,H.nx,lg⟩:Hp)=H at hk hp hq ⊢;refine C1.body (E:=E2) (nt:=24) (res:=[.tmp 4,.tmp 5]) Tryz.func37 rfl rfl rfl rfl rfl fun tm A0=>?_;have h0:=A0 0 _ rfl;have h1:=A0 1 _ rfl;clear A0;have fin:∀ (v w:Int) (A:ab) (H3:Hp),slot A.tm 4=.one (.i .i64 v)→slot A.tm 5=.one (.i .i64 w)→A.dfr=[]→Gr H H3→(v,w)=iy o x→∃ w H4,an E2 [.tmp 4,.tmp 5] (.ret,A,H3)=.ok [(w,H4)]∧Gr H H4∧∀ _:List Nat,w=.tup [(false,[.i .i64 (iy o x).1]),(false,[.i .i64 (iy o x).2])]:=fun v w A H3 h1 h2 hd hg hv=>⟨_,H3,aQ (.i .i64 v) (.i .i64 w) (.inr rfl) hd h1 h2,hg,fun _=>by rw[←hv]⟩;generalize E0:iy o x=r0 at fin;unfold iy at E0;refine qG (qA ad (qA h0 h1)) fun K hK=>?_;refine hK _ _ ?_;clear hK K;refine R1.gen (fun A1 H1=>Gr H H1∧H.nx<H1.nx∧H1.get H.nx=some (.arr [.i .i64 x.1,.o (.str x.2.1),.o (.str x.2.2.1),p,q] 84 0 0)∧slot A1.tm 0=.one (k)∧slot A1.tm 3=.one ((.o (.ptr H.nx 0 0 5)))∧A1.nt=24∧A1.dfr=[])
  ⟨(Fr.refl _).new _,?_⟩ ?_
 ·exact qZ h0
 rintro A1 H1 ⟨g1,m1,rx,t0,t3,B0,C0⟩;clear h0 h1 tm;obtain ⟨N,hN⟩:∃ N,N=H.nx:=⟨_,rfl⟩;rw[←hN] at m1 rx t3;have hk:=hk.gr g1;have hp:=hp.gr g1;have hq:=hq.gr g1;refine qG (qA ad (qA t0 (qA t3 (qA B0 (qA rx (qA m1 (qA nX (qA aO sD)))))))) fun K hK=>?_;refine WE.con (oZ H1 k o x.2.2.1 hk hL) fun w H2 g2 ⟨c,hw,ha,W0⟩=>?_;subst hw;have rx:=(g2.get _ m1 zB2).trans rx;have m1:=zA0 m1 g2.nx;have hp:=hp.gr g2;have hq:=hq.gr g2;have g2:=g1.gr g2;refine qS (qA ad (qA B0 (qA dX (qA fW W0)))) ?_;refine hK _ _ ?_;clear hK K;obtain ⟨u,rfl,hu⟩:=ha.of;clear W0;refine R1.gen (fun A3 H3=>Gr H2 H3∧H2.nx<H3.nx∧H3.get H2.nx=some (.arr [.o (.str (dW o x.2.2.1).1),u] 97 0 0)∧slot A3.tm 3=.one ((.o (.ptr N 0 0 5)))∧slot A3.tm 6=.one ((.o (.ptr H2.nx 0 0 2)))∧slot A3.tm 7=.one (.i .i64 ((fT o x.2.2.1):Int))∧A3.nt=24∧A3.dfr=[])
  ⟨((Fr.refl _).new _).mod _ (.inl (zA1 _)),?_⟩ ?_
 ·exact qZ (qA t3 (qA B0 C0))
 clear t0 t3 B0 C0 A1;rintro A H3 ⟨g3,n3,rl,t3,t6,t7,B0,C0⟩;obtain ⟨M,hM⟩:∃ M,M=H2.nx:=⟨_,rfl⟩;rw[←hM] at rl n3 t6;clear hM;have rx:=(g3.get _ m1 zB2).trans rx;have m1:=zA0 m1 g3.nx;have hp:=hp.gr g3;have hq:=hq.gr g3;have hu:=hu.gr g3;have g3:=g2.gr g3;refine qW (qA ad (qA t7 B0)) ?_;generalize fT o x.2.2.1=e0 at E0 t7 ⊢;by_cases M1:e0=0
 case neg=>
  have ce:(e0==0)=false:=zB5 M1;rw[zB0 M1] at E0;refine qX ce ?_;refine qW (qA B0 t7) ?_;exact fin (0) (e0) _ _ qp qp (qd C0) (g3) (E0)
 rw[zB1 (fun h=>h M1)] at E0;have ce:(e0==0)=true:=by rw[M1];rfl
 refine qX ce ?_;refine R1.aT ?_;refine qG (qA ad (qA t3 (qA t6 (qA B0 (qA rx (qA m1 (qA rl (qA n3 (qA ca (qA oh (qA mD IK))))))))))) fun K hK=>?_;refine WE.con (DX H3 (dW o x.2.2.1).1 u p q (dW o x.2.2.1).2 x.2.2.2 hu hp hq) fun w H4 g4 hw=>?_;subst hw;refine qS (qA ad B0) ?_;refine hK _ _ ?_;clear hK K;refine qV ?_;exact fin ((eu (dW o x.2.2.1).1 (dW o x.2.2.1).2 x.2.2.2).1) ((eu (dW o x.2.2.1).1 (dW o x.2.2.1).2 x.2.2.2).2) _ _ qp qp (qd C0) (g3.gr g4) (E0)
open Go Go.Eng Go.ChangeShapes Go.WideShapes
abbrev XJ:=fJ (Dl .i64) (fJ wS Qu)
abbrev EI:=xO Tryz.prog 181 3 XJ
abbrev UY:=fJ EI EI
theorem KW:jP XJ:=ct eL (ct ck PX)
theorem uO:jP EI:=nQ KW
theorem Ng:jP UY:=ct uO uO
theorem VP {W:World}:Opn Tryz.prog W 3 XJ 181:=ef Tryz.underlying181 (by kernel_rfl) rfl (bZ (lE Tryz.underlying3) eL (bZ (gN Tryz.underlying9) ck (gb (Qg Tryz.underlying4))))
theorem Er {W:World} (hB:ni W):Opn Tryz.prog W 1 EI 64:=gM Tryz.underlying64 (by kernel_rfl) (by decide) KW hB VP
theorem Vv {W:World} (hB:ni W):Opn Tryz.prog W 2 UY 66:=ef Tryz.underlying66 (by kernel_rfl) rfl (bZ (Er hB) uO (gb (Er hB)))
theorem Eh:Tryz.prog.bytesOf 181=32:=by kernel_rfl
theorem Lv {B:Nat} {H:Hp} {c:List AC} {us:List Gp} (h:EI B H c us):∃ u,c=[u]∧aM H u us∧us.length*32≤B:=by
 obtain ⟨u,rfl,⟨css,h1,h2⟩,h3⟩:=h;refine ⟨u,rfl,?_,by rwa [Eh] at h3⟩;have:=rF (f:=gpC) (h2.mono fun c x ⟨_,c1,c2,e,a,c3,c4,e2,b,d⟩=>by rw[e,a.1,e2,b.1,d];rfl);rw[this] at h1;exact h1
theorem XC {B:Nat} {H:Hp} {c:List AC} {x:Nm} (h:UY B H c x):∃ p q,c=[p,q]∧aM H p x.1∧aM H q x.2∧x.1.length*32≤B∧x.2.length*32≤B:=by
 obtain ⟨c1,c2,rfl,h1,h2⟩:=h;obtain ⟨p,rfl,a1,a2⟩:=Lv h1;obtain ⟨q,rfl,b1,b2⟩:=Lv h2;exact ⟨p,q,rfl,a1,b1,a2,b2⟩
theorem Bb:loadT Tryz.prog 240=some (false,1):=by kernel_rfl
theorem AT:aU Tryz.prog 240=some 1:=by kernel_rfl
theorem yh:(ax Tryz.prog 240).map (fun z=>(ofValue z).cells)=some [.o .nilS]:=by kernel_rfl
theorem zM:ba Tryz.prog 240=some (38,1):=by kernel_rfl
theorem zP:eT Tryz.prog 240=some 1:=by kernel_rfl
theorem zj:aS Tryz.prog 240=1:=by kernel_rfl
theorem KB:loadT Tryz.prog 266=some (true,3):=by kernel_rfl
theorem MQ:aU Tryz.prog 266=some 3:=by kernel_rfl
theorem Nd:(ax Tryz.prog 266).map (fun z=>(ofValue z).cells)=some [.i .i64 0,.o (.str []),.i .i64 0]:=by kernel_rfl
theorem MP:aS Tryz.prog 266=4:=by kernel_rfl
theorem Bv:aJ Tryz.prog 266 0=some (0,3,1):=by kernel_rfl
theorem zy:aJ Tryz.prog 266 1=some (1,9,1):=by kernel_rfl
theorem zY:aJ Tryz.prog 266 2=some (2,3,1):=by kernel_rfl
def tT:Nat→Option (Nat×Nat):=fun i=>(#[(0,1),(1,1),(2,1)]:Array (Nat×Nat))[i]?
theorem MW:cH Tryz.prog 266=some tT:=by kernel_rfl
theorem Bg:tT 0=some (0,1):=rfl
theorem AA:tT 1=some (1,1):=rfl
theorem AQ:tT 2=some (2,1):=rfl
theorem DH:loadT Tryz.prog 110=some (false,1):=by kernel_rfl
theorem FL:aU Tryz.prog 110=some 1:=by kernel_rfl
theorem Ej:(ax Tryz.prog 110).map (fun z=>(ofValue z).cells)=some [.o .nilS]:=by kernel_rfl
theorem Eg:ba Tryz.prog 110=some (116,4):=by kernel_rfl
theorem HB:eT Tryz.prog 110=some 1:=by kernel_rfl
theorem GZ:aS Tryz.prog 110=1:=by kernel_rfl
theorem TL:loadT Tryz.prog 116=some (true,4):=by kernel_rfl
theorem RX:aU Tryz.prog 116=some 4:=by kernel_rfl
theorem Ri:(ax Tryz.prog 116).map (fun z=>(ofValue z).cells)=some [.i .i64 0,.i .i64 0,.i .i64 0,.i .i64 0]:=by kernel_rfl
theorem Um:aS Tryz.prog 116=4:=by kernel_rfl
theorem FO:aJ Tryz.prog 116 0=some (0,3,1):=by kernel_rfl
theorem Iq:aJ Tryz.prog 116 1=some (1,3,1):=by kernel_rfl
theorem Ix:aJ Tryz.prog 116 2=some (2,3,1):=by kernel_rfl
theorem GJ:aJ Tryz.prog 116 3=some (3,3,1):=by kernel_rfl
def vw:Nat→Option (Nat×Nat):=fun i=>(#[(0,1),(1,1),(2,1),(3,1)]:Array (Nat×Nat))[i]?
theorem PJ:cH Tryz.prog 116=some vw:=by kernel_rfl
theorem EG:vw 0=some (0,1):=rfl
theorem Ft:vw 1=some (1,1):=rfl
theorem FX:vw 2=some (2,1):=rfl
theorem Gk:vw 3=some (3,1):=rfl
theorem Sk:loadT Tryz.prog 278=some (false,1):=by kernel_rfl
theorem TA:aU Tryz.prog 278=some 1:=by kernel_rfl
theorem Qf:(ax Tryz.prog 278).map (fun z=>(ofValue z).cells)=some [.o .nilF]:=by kernel_rfl
theorem TD:aS Tryz.prog 278=3:=by kernel_rfl
theorem Dn:loadT Tryz.prog 185=some (true,2):=by kernel_rfl
theorem KZ:aU Tryz.prog 185=some 2:=by kernel_rfl
theorem Vj:bW Tryz.prog 185=some 24:=by kernel_rfl
theorem CG:(ax Tryz.prog 185).map (fun z=>(ofValue z).cells)=some [.o (.str []),.i .i64 0]:=by kernel_rfl
theorem Uy:∃ z,ax Tryz.prog 185=some z∧(ofValue z).cells.length=2:=by
 have h:=CG;cases hz:ax Tryz.prog 185 with
 | none=>rw[hz] at h;cases h
 | some z=>
  rw[hz] at h;exact ⟨z,rfl,by have:(ofValue z).cells=_:=Option.some.inj h;rw[this];rfl⟩
theorem NH:aS Tryz.prog 185=4:=by kernel_rfl
theorem Ah:aJ Tryz.prog 185 0=some (0,9,1):=by kernel_rfl
theorem Aw:aJ Tryz.prog 185 1=some (1,3,1):=by kernel_rfl
def CM:Nat→Option (Nat×Nat):=fun i=>(#[(0,1),(1,1)]:Array (Nat×Nat))[i]?
theorem MC:cH Tryz.prog 185=some CM:=by kernel_rfl
theorem AW:CM 0=some (0,1):=rfl
theorem yB:CM 1=some (1,1):=rfl
theorem VW:eqK Tryz.prog 185=some [.s,.i]:=by kernel_rfl
theorem Fe:loadT Tryz.prog 67=some (false,1):=by kernel_rfl
theorem HW:aU Tryz.prog 67=some 1:=by kernel_rfl
theorem Ef:(ax Tryz.prog 67).map (fun z=>(ofValue z).cells)=some [.o .nilS]:=by kernel_rfl
theorem rj:ba Tryz.prog 67=some (185,2):=by kernel_rfl
theorem EW:eT Tryz.prog 67=some 1:=by kernel_rfl
theorem Ip:aS Tryz.prog 67=1:=by kernel_rfl
theorem BJ:loadT Tryz.prog 69=some (true,8):=by kernel_rfl
theorem Ms:aU Tryz.prog 69=some 8:=by kernel_rfl
theorem VT:bW Tryz.prog 69=some 120:=by kernel_rfl
theorem CB:(ax Tryz.prog 69).map (fun z=>(ofValue z).cells)=some [.i .i64 0,.i .i64 0,.i .i64 0,.i .i64 0,.o .nilS,.o .nilS,.o (.str []),.o .nilS]:=by kernel_rfl
theorem Wm:∃ z,ax Tryz.prog 69=some z∧(ofValue z).cells.length=8:=by
 have h:=CB;cases hz:ax Tryz.prog 69 with
 | none=>rw[hz] at h;cases h
 | some z=>
  rw[hz] at h;exact ⟨z,rfl,by have:(ofValue z).cells=_:=Option.some.inj h;rw[this];rfl⟩
theorem Ln:aS Tryz.prog 69=4:=by kernel_rfl
theorem zf:aJ Tryz.prog 69 0=some (0,3,1):=by kernel_rfl
theorem zJ:aJ Tryz.prog 69 1=some (1,3,1):=by kernel_rfl
theorem zo:aJ Tryz.prog 69 2=some (2,3,1):=by kernel_rfl
theorem zZ:aJ Tryz.prog 69 3=some (3,3,1):=by kernel_rfl
theorem zT:aJ Tryz.prog 69 4=some (4,66,2):=by kernel_rfl
theorem Bp:aJ Tryz.prog 69 5=some (6,9,1):=by kernel_rfl
theorem AH:aJ Tryz.prog 69 6=some (7,67,1):=by kernel_rfl
def jK:Nat→Option (Nat×Nat):=fun i=>(#[(0,1),(1,1),(2,1),(3,1),(4,2),(6,1),(7,1)]:Array (Nat×Nat))[i]?
theorem NO:cH Tryz.prog 69=some jK:=by kernel_rfl
theorem yD:jK 0=some (0,1):=rfl
theorem zD:jK 1=some (1,1):=rfl
theorem AD:jK 2=some (2,1):=rfl
theorem Ao:jK 3=some (3,1):=rfl
theorem Am:jK 4=some (4,2):=rfl
theorem Ay:jK 5=some (6,1):=rfl
theorem yY:jK 6=some (7,1):=rfl
theorem Hu:loadT Tryz.prog 24=some (false,1):=by kernel_rfl
theorem FA:aU Tryz.prog 24=some 1:=by kernel_rfl
theorem by_cases:bW Tryz.prog 24=some 24:=by kernel_rfl
theorem Ed:(ax Tryz.prog 24).map (fun z=>(ofValue z).cells)=some [.o .nilS]:=by kernel_rfl
theorem vA:ba Tryz.prog 24=some (69,8):=by kernel_rfl
theorem EB:eT Tryz.prog 24=some 1:=by kernel_rfl
theorem Fs:aS Tryz.prog 24=1:=by kernel_rfl
theorem Jj:loadT Tryz.prog 26=some (true,2):=by kernel_rfl
theorem TI:aU Tryz.prog 26=some 2:=by kernel_rfl
theorem RC:(ax Tryz.prog 26).map (fun z=>(ofValue z).cells)=some [.o (.str []),.o .nilS]:=by kernel_rfl
theorem Sh:aS Tryz.prog 26=4:=by kernel_rfl
theorem Eo:aJ Tryz.prog 26 0=some (0,9,1):=by kernel_rfl
theorem Gn:aJ Tryz.prog 26 1=some (1,24,1):=by kernel_rfl
def Jp:Nat→Option (Nat×Nat):=fun i=>(#[(0,1),(1,1)]:Array (Nat×Nat))[i]?
theorem Ty:cH Tryz.prog 26=some Jp:=by kernel_rfl
theorem HQ:Jp 0=some (0,1):=rfl
theorem HI:Jp 1=some (1,1):=rfl
theorem JD:loadT Tryz.prog 92=some (true,2):=by kernel_rfl
theorem RN:aU Tryz.prog 92=some 2:=by kernel_rfl
theorem lL:bW Tryz.prog 92=some 24:=by kernel_rfl
theorem Jl:(ax Tryz.prog 92).map (fun z=>(ofValue z).cells)=some [.o (.str []),.i .i64 0]:=by kernel_rfl
theorem Sn:∃ z,ax Tryz.prog 92=some z∧(ofValue z).cells.length=2:=by
 have h:=Jl;cases hz:ax Tryz.prog 92 with
 | none=>rw[hz] at h;cases h
 | some z=>
  rw[hz] at h;exact ⟨z,rfl,by have:(ofValue z).cells=_:=Option.some.inj h;rw[this];rfl⟩
theorem QZ:aS Tryz.prog 92=4:=by kernel_rfl
theorem Gb:aJ Tryz.prog 92 0=some (0,9,1):=by kernel_rfl
theorem DN:aJ Tryz.prog 92 1=some (1,3,1):=by kernel_rfl
def Kk:Nat→Option (Nat×Nat):=fun i=>(#[(0,1),(1,1)]:Array (Nat×Nat))[i]?
theorem SZ:cH Tryz.prog 92=some Kk:=by kernel_rfl
theorem Hj:Kk 0=some (0,1):=rfl
theorem Gm:Kk 1=some (1,1):=rfl
theorem XH:eqK Tryz.prog 92=some [.s,.i]:=by kernel_rfl
theorem Li:loadT Tryz.prog 43=some (false,1):=by kernel_rfl
theorem Ml:aU Tryz.prog 43=some 1:=by kernel_rfl
theorem KY:(ax Tryz.prog 43).map (fun z=>(ofValue z).cells)=some [.o .nilS]:=by kernel_rfl
theorem fw:ba Tryz.prog 43=some (92,2):=by kernel_rfl
theorem Mf:eT Tryz.prog 43=some 1:=by kernel_rfl
theorem Mo:aS Tryz.prog 43=1:=by kernel_rfl
theorem EN:loadT Tryz.prog 152=some (true,2):=by kernel_rfl
theorem ES:aU Tryz.prog 152=some 2:=by kernel_rfl
theorem GY:(ax Tryz.prog 152).map (fun z=>(ofValue z).cells)=some [.o (.str []),.i .i64 0]:=by kernel_rfl
theorem EF:aS Tryz.prog 152=4:=by kernel_rfl
theorem uW:aJ Tryz.prog 152 0=some (0,9,1):=by kernel_rfl
theorem uI:aJ Tryz.prog 152 1=some (1,3,1):=by kernel_rfl
def vz:Nat→Option (Nat×Nat):=fun i=>(#[(0,1),(1,1)]:Array (Nat×Nat))[i]?
theorem Hr:cH Tryz.prog 152=some vz:=by kernel_rfl
theorem vR:vz 0=some (0,1):=rfl
theorem wU:vz 1=some (1,1):=rfl
theorem Qd:eqK Tryz.prog 152=some [.s,.i]:=by kernel_rfl
theorem RJ:loadT Tryz.prog 150=some (false,1):=by kernel_rfl
theorem Qb:aU Tryz.prog 150=some 1:=by kernel_rfl
theorem PG:(ax Tryz.prog 150).map (fun z=>(ofValue z).cells)=some [.o .nilM]:=by kernel_rfl
theorem QQ:eT Tryz.prog 150=some 2:=by kernel_rfl
theorem SB:ir Tryz.prog 150=some (152,3):=by kernel_rfl
theorem JI:bC Tryz.prog 152=2:=by kernel_rfl
theorem Uj:aS Tryz.prog 150=2:=by kernel_rfl
theorem HF:loadT Tryz.prog 28=some (true,4):=by kernel_rfl
theorem Ij:aU Tryz.prog 28=some 4:=by kernel_rfl
theorem He:(ax Tryz.prog 28).map (fun z=>(ofValue z).cells)=some [.o .nilS,.o .nilS,.o (.str []),.o .nilS]:=by kernel_rfl
theorem Fv:aS Tryz.prog 28=4:=by kernel_rfl
theorem va:aJ Tryz.prog 28 0=some (0,22,1):=by kernel_rfl
theorem wW:aJ Tryz.prog 28 1=some (1,23,1):=by kernel_rfl
theorem vV:aJ Tryz.prog 28 2=some (2,26,2):=by kernel_rfl
def qf:Nat→Option (Nat×Nat):=fun i=>(#[(0,1),(1,1),(2,2)]:Array (Nat×Nat))[i]?
theorem Fo:cH Tryz.prog 28=some qf:=by kernel_rfl
theorem vL:qf 0=some (0,1):=rfl
theorem wX:qf 1=some (1,1):=rfl
theorem xa:qf 2=some (2,2):=rfl
theorem KS:loadT Tryz.prog 136=some (false,1):=by kernel_rfl
theorem KC:aU Tryz.prog 136=some 1:=by kernel_rfl
theorem KX:(ax Tryz.prog 136).map (fun z=>(ofValue z).cells)=some [.o .nilS]:=by kernel_rfl
theorem Mi:ba Tryz.prog 136=some (198,1):=by kernel_rfl
theorem LC:eT Tryz.prog 136=some 1:=by kernel_rfl
theorem LN:aS Tryz.prog 136=1:=by kernel_rfl
end Go.Proofs.YtnhbkodnmkojpaaGreat
end

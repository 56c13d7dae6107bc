/- A part of the proof: BkGood, BkGath, BkCkg, BkRef1, BkRef2, BkFacts3, BkRef3, BkRef4, BkRef5. No conditions. -/
import Derived.Test.YtnhbkodnmkojpaaGreatRAk
import Derived.KernelRfl
set_option maxRecDepth 100000
set_option maxHeartbeats 64000000
set_option linter.unusedVariables false
set_option linter.unusedSimpArgs false
noncomputable section
namespace Go.Proofs.YtnhbkodnmkojpaaGreat
open Go Go.Eng
theorem sE:ak Tryz.prog 77=true:=by kernel_rfl
theorem Jw:ak Tryz.prog 139=true:=by kernel_rfl
theorem JL:ak Tryz.prog 138=true:=by kernel_rfl
def Ur (s:List UInt8):List AC:=[.o (.str s)]
theorem SP (s:List UInt8):(Ur s).length=1:=rfl
def SlS (H:Hp) (v:AC) (l:List (List UInt8)):Prop:=SlC H v 1 l.length (l.flatMap Ur)
theorem SlS.gr {H H':Hp} {v:AC} {l:List (List UInt8)} (h:SlS H v l) (hg:Gr H H'):SlS H' v l:=SlC.gr h hg
theorem SlS.len {H:Hp} {v:AC} {l:List (List UInt8)} (h:SlS H v l):cQ H 1 (.one v)=.val (.one (.i .i64 (l.length:Int))) H:=SlC.len h
theorem SlS.lt {H:Hp} {v:AC} {l:List (List UInt8)} (h:SlS H v l):ltV (.one v) H.nx:=kY h
theorem SlS.open {H:Hp} {v:AC} {l:List (List UInt8)} (h:SlS H v l) (hn:0<l.length):∃ id g off cells,v=.o (.sl id g off l.length 1)∧id<H.nx∧rowOf (H.get id) g=some cells∧∀ (i:Nat) (x:List UInt8),l[i]?=some x→(cells.drop (off+i*1)).headD (.b false)=.o (.str x)∧off+i*1+1≤cells.length:=by
 obtain ⟨id,g,off,h1,h2,hr⟩:=SlC.pos h hn;have E3:=hr;obtain ⟨cells,h3,h6,h7⟩:=hr;refine ⟨id,g,off,cells,h1,h2,h3,fun i x hx=>?_⟩;obtain ⟨cells',k3,k6,k7⟩:=Rd.at (c:=Ur) SP E3 hx;rw[h3] at k3;cases k3
 refine ⟨?_,k6⟩;cases hd:cells.drop (off+i*1) with
 | nil=>have:=congrArg List.length hd;simp at this;omega
 | cons a r=>
  rw[hd] at k7;have:=(List.cons.inj k7).1;rw[this];rfl
abbrev Gd:=List UInt8×List UInt8×List (List UInt8)
def GdR (H:Hp) (c:List AC) (x:Gd):Prop:=∃ u,c=[.o (.str x.1),.o (.str x.2.1),u]∧SlS H u x.2.2
theorem GdR.gr {H H':Hp} {c:List AC} {x:Gd} (h:GdR H c x) (hg:Gr H H'):GdR H' c x:=let ⟨u,h1,h2⟩:=h;⟨u,h1,h2.gr hg⟩
def SlG (H:Hp) (v:AC) (gs:List Gd):Prop:=SlR GdR 3 H v gs
theorem SlG.gr {H H':Hp} {v:AC} {ls:List Gd} (h:SlG H v ls) (hg:Gr H H'):SlG H' v ls:=SlR.dY h hg.nx (fun i hi=>hg.get i hi zB2) fun _ _ h=>h.gr hg
theorem SlG.len {H:Hp} {v:AC} {l:List Gd} (h:SlG H v l):cQ H 1 (.one v)=.val (.one (.i .i64 (l.length:Int))) H:=SlR.len h
theorem SlG.lt {H:Hp} {v:AC} {l:List Gd} (h:SlG H v l):ltV (.one v) H.nx:=SlR.lt h
structure GdAt (H:Hp) (cells:List AC) (o:Nat) (x:Gd) (u:AC):Prop where
 of:SlS H u x.2.2
 all:(cells.drop o).take 3=[.o (.str x.1),.o (.str x.2.1),u]
 le:o+3≤cells.length
 le1:o+1≤cells.length
 le2:o+1+1≤cells.length
 le3:o+2+1≤cells.length
 f1:(cells.drop o).headD (.b false)=.o (.str x.1)
 f2:(cells.drop (o+1)).headD (.b false)=.o (.str x.2.1)
 f3:(cells.drop (o+2)).headD (.b false)=u
theorem Xa {cells:List AC} {o:Nat} {a b c:AC} (h:(cells.drop o).take 3=[a,b,c]):(cells.drop o).headD (.b false)=a∧(cells.drop (o+1)).headD (.b false)=b∧(cells.drop (o+2)).headD (.b false)=c:=by
 rw[←List.drop_drop,←List.drop_drop];cases hd:cells.drop o with
 | nil=>rw[hd] at h;cases h
 | cons x r=>
  rw[hd] at h;cases r with
  | nil=>cases h
  | cons y r=>
   cases r with
   | nil=>cases h
   | cons z r=>cases h;exact ⟨rfl,rfl,rfl⟩
theorem SlG.open {H:Hp} {v:AC} {l:List Gd} (h:SlG H v l) (hn:0<l.length):∃ id g off cells,v=.o (.sl id g off l.length 3)∧id<H.nx∧rowOf (H.get id) g=some cells ∧
  ∀ (i:Nat) (x:Gd),l[i]?=some x→∃ u,GdAt H cells (off+i*3) x u:=by
 obtain ⟨id,g,off,cells,e1,hid,hg,L0⟩:=SlR.open h hn;refine ⟨id,g,off,cells,e1,hid,hg,fun i x hx=>?_⟩;obtain ⟨hle,c,hc,W0,u,rfl,hu⟩:=L0 i x hx;obtain ⟨a,b,c⟩:=Xa hc;exact ⟨u,hu,hc,hle,by omega,by omega,by omega,a,b,c⟩
theorem TT {α β:Type} {R:β→α→Prop}:∀ {cs:List β} {xs:List α} (n:Nat),Al R cs xs→Al R (cs.take n) (xs.take n)
 | _,_,0,_=>trivial
 | [],[],_+1,_=>trivial
 | _::_,_::_,n+1,h=>⟨h.1,TT n h.2⟩
 | [],_::_,_+1,h=>h.elim
 | _::_,[],_+1,h=>h.elim
theorem vW {sz:Nat}:∀ {css:List (List AC)} (n:Nat),(∀ c∈css,c.length=sz)→(css.take n).flatMap id=(css.flatMap id).take (n*sz)
 | [],n,_=>by simp
 | c::css,0,_=>by simp
 | c::css,n+1,h=>by
  have hc:c.length=sz:=h c (List.mem_cons_self ..);rw[List.take_succ_cons,List.flatMap_cons,List.flatMap_cons,vW n fun x hx=>h x (List.mem_cons_of_mem _ hx),Nat.succ_mul];show c++_=(c++css.flatMap id).take (n*sz+sz);have:n*sz+sz - sz=n*sz:=by omega
  rw[List.take_append,hc,this,List.take_of_length_le (l:=c) (by omega)]
theorem SlR.take {α:Type} {R:Hp→List AC→α→Prop} {sz:Nat} {H:Hp} {id g off:Nat} {l:List α} (h:SlR R sz H (.o (.sl id g off l.length sz)) l) {n:Nat} (hn:n≤l.length):SlR R sz H (.o (.sl id g off n sz)) (l.take n):=by
 obtain ⟨css,h1,h2⟩:=h;have hl:(l.take n).length=n:=by rw[List.length_take];omega
 have W0:css.length=l.length:=h2.len;have hcn:(css.take n).length=n:=by rw[List.length_take];omega
 refine ⟨css.take n,⟨?_,?_⟩,TT n h2⟩
 ·rw[sf fun c hc=>h2.lens c (List.mem_of_mem_take hc),hcn,hl]
 rcases h1.2 with ⟨e,h0⟩|⟨id',g',off',e,hid,hr⟩
 ·cases e
 cases e
 right;refine ⟨id,g,off,by rw[hl],hid,?_⟩;rw[hl,vW n h2.lens];have:=hr.part 0 (n*sz) (by have:=Nat.mul_le_mul_right sz hn;omega);rwa [List.drop_zero,Nat.add_zero] at this
def bp:Nat→List Gd→List UInt8→Int
 | _,[],_=>-1
 | n,x::l,s=>if x.1=s then (n:Int) else bp (n+1) l s
theorem Is (H:Hp) (bn:Nat) (s:List UInt8) (c:AC) (d:AC) (e:List UInt8) (hb:bn<H.nx) (hg:H.get bn=some (.arr [.o (.str s)] 9 0 0)):
  Con E2 139 [.agg [.o (.str e),c,d],.one (.o (.ptr bn 0 0 1))] H (fun _=>False) fun r _=>r=.one (.b (e==s)):=by
 refine Con.of rfl fun lg=>?_;have hb:bn<(⟨H.t,H.nx,lg⟩:Hp).nx:=hb;have hg:(⟨H.t,H.nx,lg⟩:Hp).get bn=some (.arr [.o (.str s)] 9 0 0):=hg;generalize (⟨H.t,H.nx,lg⟩:Hp)=H at hb hg ⊢;refine C1.body (E:=E2) (nt:=8) (res:=[.tmp 3]) Tryz.func139 rfl rfl rfl rfl rfl fun tm A0=>?_;have h0:=A0 0 _ rfl;have h1:=A0 1 _ rfl;clear A0;repeat' first|refine R1.ret ?_|refine R1.exit ?_|refine R1.skip ?_|refine R1.pO ?_|refine R1.lC ?_|refine R1.aE ?_|refine R1.aT ?_|refine R1.iG ?_|((first|refine R1.GR fun K hK=>?_|refine R1.ow fun K hK=>?_|refine R1.JN (by kernel_rfl) fun K hK=>?_|refine R1.EC (by kernel_rfl) fun K hK=>?_);simp only[qB,aC,Nat.reduceLT,Nat.reduceLeDiff,Nat.reduceAdd,Nat.reduceSub,ad,h0,h1,fH,aO,hg,Nat.lt_succ_of_lt hb,aW hb];refine hK _ _ ?_;clear hK K)
 exact ⟨_,_,ah (.b (e==s)) (.inr rfl) rfl (by simp only[aa,Nat.reduceEqDiff,reduceIte,bO]),(Fr.refl _).new _,fun _=>rfl⟩
theorem Gf (H:Hp) (v:AC) (gs:List Gd) (bn:Nat) (s:List UInt8) (hv:SlG H v gs) (hb:bn<H.nx) (hg:H.get bn=some (.arr [.o (.str s)] 9 0 0)) (hL:gs.length≤1000000):
  Con E2 138 [.one v,.one (.o (.clo 139 [(bn,0,0,1)]))] H (fun _=>False) fun r _=>r=.one (.i .i64 (bp 0 gs s)):=by
 refine Con.of rfl fun lg=>?_;have hb:bn<(⟨H.t,H.nx,lg⟩:Hp).nx:=hb;have hg:(⟨H.t,H.nx,lg⟩:Hp).get bn=some (.arr [.o (.str s)] 9 0 0):=hg;have hv:SlG ⟨H.t,H.nx,lg⟩ v gs:=hv;generalize (⟨H.t,H.nx,lg⟩:Hp)=H at hb hg hv ⊢;refine C1.body (E:=E2) (nt:=19) (res:=[.tmp 4]) Tryz.func138 rfl rfl rfl rfl rfl fun tm A0=>?_;have h0:=A0 0 _ rfl;have h1:=A0 1 _ rfl;clear A0;generalize E0:bp 0 gs s=r0;refine qW (qA ad (qA h0 (qA h1 (qA fu (qA hv.len hv.lt))))) ?_;refine R1.aG fun K k1 k2 k3 k4=>?_;refine R1.loop (fun k A H1=>∃ i:Nat,k=gs.length - i∧i≤gs.length∧Gr H H1∧bp i (gs.drop i) s=r0∧slot A.tm 0=.one v∧slot A.tm 1=.one (.o (.clo 139 [(bn,0,0,1)]))∧slot A.tm 7=.one (.i .i64 (gs.length:Int))∧slot A.tm 8=.one (.i .i64 (i:Int))∧A.nt=19∧A.dfr=[]) ?_ gs.length
  ⟨0,rfl,Nat.zero_le _,Fr.refl _,E0,?_⟩
 ·clear h0 h1 tm;rintro k A H1 ⟨i,rfl,hi,g1,hr,t0,t1,t7,t8,B0,C0⟩;have B2:=hv.gr g1;have M4:H1.get bn=some (.arr [.o (.str s)] 9 0 0):=by rw[g1.get _ hb zB2];exact hg
  have hb1:bn<H1.nx:=zA0 hb g1.nx;refine qW (qA ad (qA t7 (qA t8 B0))) ?_;refine qE fun Kx Ky hx hy=>?_;refine cY (fun hc=>hx ?_) (fun hc=>hy ?_)
  ·clear hx hy Kx Ky;have D0:i<gs.length:=by omega
   obtain ⟨id,g,off,cells,rfl,hid,P0,L0⟩:=B2.open (by omega);have ex:gs[i]?=some gs[i]:=zB4 D0;have Q0:gs.drop i=gs[i]::gs.drop (i+1):=List.drop_eq_getElem_cons D0;generalize gs[i]=x at ex Q0;obtain ⟨u,K0⟩:=L0 i x ex;have V0:=zC0 i (by omega);rw[Q0,bp] at hr;refine qV ?_;refine R1.aG fun K2 q1 q2 q3 q4=>?_;refine qW (qA ad (qA t8 B0)) ?_;refine qG (qA ad (qA t0 (qA t1 (qA B0 (qA bI (qA nF (qA (ixC D0) (qA hid (qA P0 (qA K0.all (qA K0.le Jw))))))))))) fun K hK=>?_;refine WE.con (Is H1 bn s _ _ x.1 hb1 M4) fun w H2 g2 hw=>?_;subst hw;refine qS (qA ad B0) ?_;refine hK _ _ ?_;clear hK K;have g2':=g1.gr g2;by_cases R4:x.1=s
   ·rw[zB0 R4] at hr;refine qE fun Kx Ky hx hy=>?_;rw[R4,beq_self_eq_true];refine hx ?_;clear hx hy Kx Ky;refine qW B0 ?_;exact q4 _ _ (k4 _ _ ⟨_,_,ah (.i .i64 (i:Int)) (.inr rfl) (qd C0) qp,g2',fun _=>by rw[←hr]⟩)
   rw[zB1 R4] at hr;refine qE fun Kx Ky hx hy=>?_;rw[zB5 R4];refine hy ?_;clear hx hy Kx Ky;refine qW B0 ?_;refine q1 _ _ ?_;refine qW (qA B0 (qA t8 V0)) ?_;refine ⟨gs.length - (i+1),by omega,i+1,rfl,D0,g2',hr,?_,?_,?_,?_,?_,?_⟩
   ·simp only[aa,Nat.reduceEqDiff,reduceIte,t0]
   ·simp only[aa,Nat.reduceEqDiff,reduceIte,t1]
   ·simp only[aa,Nat.reduceEqDiff,reduceIte,t7]
   ·simp only[aa,Nat.reduceEqDiff,reduceIte]
   ·simp only[aw,B0]
   simp only[aj,C0]
  clear hx hy Kx Ky;have C2:i=gs.length:=by omega
  rw[C2,List.drop_length,bp] at hr;refine qW B0 ?_;refine k2 _ _ ?_;refine qW B0 ?_;exact ⟨_,_,ah (.i .i64 (-1)) (.inr rfl) (qd C0) qp,g1,fun _=>by rw[←hr]⟩
 simp only[aa,Nat.reduceEqDiff,reduceIte,aw,aj,h0,h1,and_self,true_and];exact ⟨rfl,trivial⟩
theorem oM (H:Hp) (v:AC) (gs:List Gd) (s:List UInt8) (hv:SlG H v gs) (hL:gs.length≤1000000):
  Con E2 77 [.one v,.one (.o (.str s))] H (fun _=>False) fun r _=>r=.one (.i .i64 (bp 0 gs s)):=by
 refine Con.of rfl fun lg=>?_;have hv:SlG ⟨H.t,H.nx,lg⟩ v gs:=hv;generalize (⟨H.t,H.nx,lg⟩:Hp)=H at hv ⊢;refine C1.body (E:=E2) (nt:=8) (res:=[.tmp 4]) Tryz.func77 rfl rfl rfl rfl rfl fun tm A0=>?_;have h0:=A0 0 _ rfl;have h1:=A0 1 _ rfl;clear A0;refine qW (qA ad (qA h0 h1)) ?_;refine qG (qA ad (qA h0 JL)) fun K hK=>?_;refine WE.con (Gf _ v gs H.nx s (hv.gr ((Fr.refl _).new _)) (zA6 _) (aB rfl) hL) fun w H2 g2 hw=>?_;subst hw;refine qS ad ?_;refine hK _ _ ?_;clear hK K;refine qV ?_;exact ⟨_,_,ah (.i .i64 (bp 0 gs s)) (.inr rfl) rfl qp,((Fr.refl _).new _).gr g2,fun _=>rfl⟩
theorem Jq:ak Tryz.prog 137=true:=by kernel_rfl
theorem jl:∀ (n:Nat) (l:List Gd) (s:List UInt8),bp n l s=-1∨∃ k y,l[k]?=some y∧bp n l s=((n+k:Nat):Int)
 | _,[],_=>.inl rfl
 | n,x::l,s=>by
  unfold bp;by_cases h:x.1=s
  ·rw[zB0 h];exact .inr ⟨0,x,rfl,rfl⟩
  rw[zB1 h];rcases jl (n+1) l s with h|⟨k,y,h1,h2⟩
  ·exact .inl h
  exact .inr ⟨k+1,y,h1,by rw[h2];congr 1;omega⟩
def gOK (bf:List Gd) (x:Gd) (i:Nat) (s:List UInt8):Bool:=
 match bf[(bp 0 bf s).toNat]? with
 | some y=>!decide (bp 0 bf s<0)&&(lEq y.2.1 x.2.1&&(!decide (0<(y.2.2.length:Int))&&(!decide (0<(i:Int))||bj (x.2.2.getD (i - 1) []) s)))
 | none=>false
def oL (bf:List Gd) (x:Gd):Bool:=(List.range x.2.2.length).all fun i=>gOK bf x i (x.2.2.getD i [])
theorem jL {bf:List Gd} {x:Gd} {i:Nat} {s:List UInt8} (hx:x.2.2[i]?=some s) (h:gOK bf x i s=false):oL bf x=false:=by
 have D0:i<x.2.2.length:=(List.getElem?_eq_some_iff.1 hx).1;exact List.all_eq_false.2 ⟨i,List.mem_range.2 D0,by rw[List.getD_eq_getElem?_getD,hx];show ¬gOK bf x i s=true;rw[h];decide⟩
theorem Gs (H:Hp) (v:AC) (bf:List Gd) (x:Gd) (u:AC) (hv:SlG H v bf) (hu:SlS H u x.2.2) (hL:bf.length≤1000000) (hLx:x.2.2.length≤4611686018427387904):
  Con E2 137 [.one v,.agg [.o (.str x.1),.o (.str x.2.1),u]] H (fun _=>False) fun r _=>r=.one (.b (oL bf x)):=by
 refine Con.of rfl fun lg=>?_;have hv:SlG ⟨H.t,H.nx,lg⟩ v bf:=hv;have hu:SlS ⟨H.t,H.nx,lg⟩ u x.2.2:=hu;generalize (⟨H.t,H.nx,lg⟩:Hp)=H at hv hu ⊢;refine C1.body (E:=E2) (nt:=55) (res:=[.tmp 4]) Tryz.func137 rfl rfl rfl rfl rfl fun tm A0=>?_;have h0:=A0 0 _ rfl;have h1:=A0 1 _ rfl;clear A0;refine qG (qA ad h1) fun K hK=>?_;refine hK _ _ ?_;clear hK K;refine R1.gen (fun A1 H1=>Gr H H1∧H.nx<H1.nx∧H1.get H.nx=some (.arr [.o (.str x.1),.o (.str x.2.1),u] 104 0 0)∧slot A1.tm 0=.one v∧slot A1.tm 3=.one (.o (.ptr H.nx 0 0 3))∧A1.nt=55∧A1.dfr=[])
  ⟨(Fr.refl _).new _,?_⟩ ?_
 ·exact qZ h0
 rintro A1 H1 ⟨g1,lb,rb,t0,t3,B0,C0⟩;clear h0 h1 tm;have B2:=hv.gr g1;have Q1:=hu.gr g1;have fin:∀ (A:ab) (H3:Hp) (b:Bool),(aA.ret=.normal∨aA.ret=.ret)→slot A.tm 4=.one (.b b)→A.dfr=[]→Gr H H3→b=oL bf x→∃ w H4,an E2 [.tmp 4] (.ret,A,H3)=.ok [(w,H4)]∧Gr H H4∧∀ _:List Nat,w=.one (.b (oL bf x)):=fun A H3 b _ h1 h2 h3 h4=>⟨_,H3,ah (.b b) (.inr rfl) h2 h1,h3,fun _=>by rw[h4]⟩;refine qW (qA ad (qA t3 (qA B0 (qA rb (qA lb (qA bX (qA dB (qA dJ (qA Q1.len Q1.lt))))))))) ?_;refine R1.aG fun K k1 k2 k3 k4=>?_;refine R1.loop (fun k A H2=>∃ i:Nat,k=x.2.2.length - i∧i≤x.2.2.length∧Gr H1 H2∧(∀ j,j<i→gOK bf x j (x.2.2.getD j [])=true)∧slot A.tm 0=.one v∧slot A.tm 3=.one (.o (.ptr H.nx 0 0 3))∧slot A.tm 9=.one u∧slot A.tm 10=.one (.i .i64 (x.2.2.length:Int))∧slot A.tm 11=.one (.i .i64 (i:Int))∧A.nt=55∧A.dfr=[]) ?_ x.2.2.length
  ⟨0,rfl,Nat.zero_le _,Fr.refl _,fun j hj=>absurd hj (Nat.not_lt_zero j),?_⟩
 ·clear t0 t3 B0 C0 A1;rintro k A H2 ⟨i,rfl,hi,g2,T1,t0,t3,t9,t10,t11,B0,C0⟩;have Y2:=Q1.gr g2;have X1:=B2.gr g2;refine qW (qA ad (qA t10 (qA t11 B0))) ?_;refine qE fun Kx Ky hx hy=>?_;refine cY (fun hc=>hx ?_) (fun hc=>hy ?_)
  ·clear hx hy Kx Ky;have D0:i<x.2.2.length:=by omega
   obtain ⟨id,g,off,cells,rfl,hid,P0,L0⟩:=Y2.open (by omega);have ew:x.2.2[i]?=some x.2.2[i]:=zB4 D0;have O7:x.2.2.getD i []=x.2.2[i]:=by rw[List.getD_eq_getElem?_getD,ew];rfl
   generalize x.2.2[i]=s at ew O7;obtain ⟨e1,e2⟩:=L0 i s ew;have V0:=zC0 i (by omega);refine qV ?_;refine R1.aG fun K2 q1 q2 q3 q4=>?_;refine qW (qA ad (qA t9 (qA t11 (qA B0 (qA dK (qA aO (qA (ixC D0) (qA hid (qA P0 (qA e1 e2)))))))))) ?_;refine qG (qA ad (qA t0 (qA B0 sE))) fun K hK=>?_;refine WE.con (oM H2 v bf s X1 hL) fun w H3 g3 hw=>?_;subst hw;refine qS (qA ad B0) ?_;refine hK _ _ ?_;clear hK K;have g23:=g2.gr g3;have g3':=g1.gr g23;have m6:=Q1.gr g23;have G5:=B2.gr g23;have rb:H3.get H.nx=some (.arr [.o (.str x.1),.o (.str x.2.1),.o (.sl id g off x.2.2.length 1)] 104 0 0):=by rw[g23.get _ lb zB2];exact rb
   have lb:H.nx<H3.nx:=zA0 lb g23.nx;have j_:id<H3.nx:=zA0 hid g3.nx;have V_:rowOf (H3.get id) g=some cells:=by rw[g3.get _ hid zB2];exact P0
   refine R1.Ep (fun A4=>slot A4.tm 0=.one v∧slot A4.tm 3=.one (.o (.ptr H.nx 0 0 3))∧slot A4.tm 5=.one (.i .i64 (i:Int))∧slot A4.tm 6=.one (.o (.str s))∧slot A4.tm 7=.one (.i .i64 (bp 0 bf s))∧slot A4.tm 9=.one (.o (.sl id g off x.2.2.length 1))∧slot A4.tm 10=.one (.i .i64 (x.2.2.length:Int))∧slot A4.tm 11=.one (.i .i64 (i:Int))∧A4.nt=55∧A4.dfr=[])
    ⟨by simp only[aa,Nat.reduceEqDiff,reduceIte,t0],by simp only[aa,Nat.reduceEqDiff,reduceIte,t3],by simp only[aa,Nat.reduceEqDiff,reduceIte],by simp only[aa,Nat.reduceEqDiff,reduceIte],by simp only[aa,Nat.reduceEqDiff,reduceIte],by simp only[aa,Nat.reduceEqDiff,reduceIte,t9],by simp only[aa,Nat.reduceEqDiff,reduceIte,t10],by simp only[aa,Nat.reduceEqDiff,reduceIte,t11],by simp only[aw,B0],by simp only[aj,C0]⟩ ?_
   clear t0 t3 t9 t10 t11 B0 C0 A;rintro A ⟨t0,t3,t5,t6,t7,t9,t10,t11,B0,C0⟩;rcases jl 0 bf s with hm|⟨k,y,hy0,hk⟩
   ·have c1:(bp 0 bf s<0)=True:=eq_true (by omega);have C7:gOK bf x i s=false:=by
     unfold gOK;split
     ·rw[decide_eq_true (by omega:bp 0 bf s<0)];rfl
     rfl
    refine qG (qA ad (qA t0 (qA t3 (qA t5 (qA t6 (qA t7 (qA B0 (qA rb (qA lb (qA bI (qA dK (qA cu (qA bX (qA aO (qA dB (qA dJ c1)))))))))))))))) fun K hK=>?_;refine hK _ _ ?_;clear hK K;refine qY ?_;refine qW B0 ?_;exact q4 _ _ (k4 _ _ (fin _ _ false (.inr rfl) qp (qd C0) g3' (jL ew C7).symm))
   rw[Nat.zero_add] at hk;have S5:k<bf.length:=(List.getElem?_eq_some_iff.1 hy0).1;have c1:(bp 0 bf s<0)=False:=eq_false (by omega);have T6:gOK bf x i s=(lEq y.2.1 x.2.1&&(!decide (0<(y.2.2.length:Int))&&(!decide (0<(i:Int))||bj (x.2.2.getD (i - 1) []) s))):=by
    unfold gOK;rw[hk,Int.toNat_natCast,hy0,decide_eq_false (by omega:¬(k:Int)<0)];rfl
   obtain ⟨id',g',off',cells',rfl,F1,I2,X2⟩:=G5.open (by omega);obtain ⟨uy,Y0⟩:=X2 k y hy0;rw[hk] at t7 c1;cases c2:lEq y.2.1 x.2.1 with
   | false=>
    refine qG (qA ad (qA t0 (qA t3 (qA t5 (qA t6 (qA t7 (qA B0 (qA rb (qA lb (qA bI (qA dK (qA cu (qA bX (qA aO (qA dB (qA dJ (qA c1 (qA c2 (qA (ixC S5) (qA F1 (qA I2 (qA Y0.f2 Y0.le2)))))))))))))))))))))) fun K hK=>?_;refine hK _ _ ?_;clear hK K;refine qY ?_;refine qW B0 ?_;exact q4 _ _ (k4 _ _ (fin _ _ false (.inr rfl) qp (qd C0) g3' (jL ew (by rw[T6,c2];rfl)).symm))
   | true=>
    by_cases h3:0<(y.2.2.length:Int)
    ·have c3:(0<(y.2.2.length:Int))=True:=eq_true h3;refine qG (qA ad (qA t0 (qA t3 (qA t5 (qA t6 (qA t7 (qA B0 (qA rb (qA lb (qA bI (qA dK (qA cu (qA bX (qA aO (qA dB (qA dJ (qA c1 (qA c2 (qA c3 (qA (ixC S5) (qA F1 (qA I2 (qA Y0.f2 (qA Y0.le2 (qA Y0.f3 (qA Y0.le3 (qA Y0.of.len Y0.of.lt))))))))))))))))))))))))))) fun K hK=>?_;refine hK _ _ ?_;clear hK K;refine qY ?_;refine qW B0 ?_;exact q4 _ _ (k4 _ _ (fin _ _ false (.inr rfl) qp (qd C0) g3' (jL ew (by rw[T6,c2,decide_eq_true h3];rfl)).symm))
    have c3:(0<(y.2.2.length:Int))=False:=eq_false h3;have good:∀ A2:ab,slot A2.tm 0=.one (.o (.sl id' g' off' bf.length 3))→slot A2.tm 3=.one (.o (.ptr H.nx 0 0 3))→slot A2.tm 9=.one (.o (.sl id g off x.2.2.length 1))→slot A2.tm 10=.one (.i .i64 (x.2.2.length:Int))→slot A2.tm 11=.one (.i .i64 ((i+1:Nat):Int))→A2.nt=55→A2.dfr=[]→gOK bf x i s=true →
      ∃ k',k'<x.2.2.length - i∧∃ i:Nat,k'=x.2.2.length - i∧i≤x.2.2.length∧Gr H1 H3∧(∀ j,j<i→gOK bf x j (x.2.2.getD j [])=true)∧slot A2.tm 0=.one (.o (.sl id' g' off' bf.length 3))∧slot A2.tm 3=.one (.o (.ptr H.nx 0 0 3))∧slot A2.tm 9=.one (.o (.sl id g off x.2.2.length 1))∧slot A2.tm 10=.one (.i .i64 (x.2.2.length:Int))∧slot A2.tm 11=.one (.i .i64 (i:Int))∧A2.nt=55∧A2.dfr=[]:=
     fun A2 a b c d e f g h=>⟨x.2.2.length - (i+1),by omega,i+1,rfl,D0,g23,fun j hj=>by
      rcases Nat.lt_or_ge j i with h'|h'
      ·exact T1 j h'
      have:j=i:=by omega
      subst this;rw[O7];exact h,a,b,c,d,e,f,g⟩
    by_cases h4:0<(i:Int)
    ·have c4:(0<(i:Int))=True:=eq_true h4;have F9:i - 1<x.2.2.length:=by omega
     have ep:x.2.2[i - 1]?=some x.2.2[i - 1]:=zB4 F9;have o_:x.2.2.getD (i - 1) []=x.2.2[i - 1]:=by rw[List.getD_eq_getElem?_getD,ep];rfl
     generalize x.2.2[i - 1]=sp at ep o_;obtain ⟨f1,f2⟩:=L0 (i - 1) sp ep;have hwm:IntKind.i64.wrap ((i:Int) - 1)=((i - 1:Nat):Int):=by rw[ao (by omega) (by omega)];omega
     rw[decide_eq_true h4,o_] at T6;cases c5:bj sp s with
     | false=>
      refine qG (qA ad (qA t0 (qA t3 (qA t5 (qA t6 (qA t7 (qA B0 (qA rb (qA lb (qA bI (qA dK (qA cu (qA bX (qA aO (qA dB (qA dJ (qA c1 (qA c2 (qA c3 (qA c4 (qA c5 (qA hwm (qA (ixC S5) (qA (ixC F9) (qA F1 (qA I2 (qA Y0.f2 (qA Y0.le2 (qA Y0.f3 (qA Y0.le3 (qA Y0.of.len (qA Y0.of.lt (qA j_ (qA V_ (qA f1 f2))))))))))))))))))))))))))))))))))) fun K hK=>?_;refine hK _ _ ?_;clear hK K;refine qY ?_;refine qW B0 ?_;exact q4 _ _ (k4 _ _ (fin _ _ false (.inr rfl) qp (qd C0) g3' (jL ew (by rw[T6,c2,c5,decide_eq_false h3];rfl)).symm))
     | true=>
      refine qG (qA ad (qA t0 (qA t3 (qA t5 (qA t6 (qA t7 (qA B0 (qA rb (qA lb (qA bI (qA dK (qA cu (qA bX (qA aO (qA dB (qA dJ (qA c1 (qA c2 (qA c3 (qA c4 (qA c5 (qA hwm (qA (ixC S5) (qA (ixC F9) (qA F1 (qA I2 (qA Y0.f2 (qA Y0.le2 (qA Y0.f3 (qA Y0.le3 (qA Y0.of.len (qA Y0.of.lt (qA j_ (qA V_ (qA f1 f2))))))))))))))))))))))))))))))))))) fun K hK=>?_;refine hK _ _ ?_;clear hK K;refine qY ?_;refine qW B0 ?_;refine q1 _ _ ?_;refine qW (qA B0 (qA t11 V0)) ?_;refine good _ ?_ ?_ ?_ ?_ ?_ ?_ ?_ (by rw[T6,c2,c5,decide_eq_false h3];rfl);all_goals simp only[aa,aw,aj,Nat.reduceEqDiff,reduceIte,t0,t3,t9,t10,B0,C0]
    have c4:(0<(i:Int))=False:=eq_false h4;rw[decide_eq_false h4] at T6;refine qG (qA ad (qA t0 (qA t3 (qA t5 (qA t6 (qA t7 (qA B0 (qA rb (qA lb (qA bI (qA dK (qA cu (qA bX (qA aO (qA dB (qA dJ (qA c1 (qA c2 (qA c3 (qA c4 (qA (ixC S5) (qA F1 (qA I2 (qA Y0.f2 (qA Y0.le2 (qA Y0.f3 (qA Y0.le3 (qA Y0.of.len Y0.of.lt)))))))))))))))))))))))))))) fun K hK=>?_;refine hK _ _ ?_;clear hK K;refine qY ?_;refine qW B0 ?_;refine q1 _ _ ?_;refine qW (qA B0 (qA t11 V0)) ?_;refine good _ ?_ ?_ ?_ ?_ ?_ ?_ ?_ (by rw[T6,c2,decide_eq_false h3];rfl);all_goals simp only[aa,aw,aj,Nat.reduceEqDiff,reduceIte,t0,t3,t9,t10,B0,C0]
  clear hx hy Kx Ky;have C2:i=x.2.2.length:=by omega
  refine qW B0 ?_;refine k2 _ _ ?_;refine qW B0 ?_;refine fin _ _ true (.inr rfl) qp (qd C0) (g1.gr g2) ?_;exact (List.all_eq_true.2 fun j hj=>T1 j (by have:=List.mem_range.1 hj;omega)).symm
 simp only[aa,Nat.reduceEqDiff,reduceIte,aw,aj,t0,t3,B0,C0,and_self,true_and];exact ⟨rfl,trivial⟩
theorem xH:ak Tryz.prog 76=true:=by kernel_rfl
def goG (ls:List Lad):List Gd→List Gd→Int
 | _,[]=>0
 | acc,x::gs=>if nmB x.1=false then 50 else if 0≤bp 0 acc x.1 then 50 else if fT (some ls) x.2.1≠0 then 4 else if oL acc x=false then 50 else goG ls (acc++[x]) gs
def jS:Option (List Lad)→List Gd→Int
 | none,_=>1
 | some ls,gs=>if (32:Int)<gs.length then 3 else goG ls [] gs
theorem xy (H:Hp) (p v:AC) (o:Option (List Lad)) (gs:List Gd) (hp:cU H p o) (hL:∀ ls,o=some ls→∀ x∈ls,x.2.length≤1000000) (hv:SlG H v gs) (hB:∀ x∈gs,x.2.2.length≤4611686018427387904):
  Con E2 76 [.one p,.one v] H (fun _=>False) fun r _=>r=.one (.i .i64 (jS o gs)):=by
 refine Con.of rfl fun lg=>?_;have hp:cU ⟨H.t,H.nx,lg⟩ p o:=cU.same (H:=H) rfl rfl hp;have hv:SlG ⟨H.t,H.nx,lg⟩ v gs:=hv;generalize (⟨H.t,H.nx,lg⟩:Hp)=H at hp hv ⊢;refine C1.body (E:=E2) (nt:=50) (res:=[.tmp 4]) Tryz.func76 rfl rfl rfl rfl rfl fun tm A0=>?_;have h0:=A0 0 _ rfl;have h1:=A0 1 _ rfl;clear A0;have fin:∀ (e:Int) (A:ab) (H3:Hp),slot A.tm 4=.one (.i .i64 e)→A.dfr=[]→Gr H H3→e=jS o gs→∃ w H4,an E2 [.tmp 4] (.ret,A,H3)=.ok [(w,H4)]∧Gr H H4∧∀ _:List Nat,w=.one (.i .i64 (jS o gs)):=fun e A H3 h1 h2 h3 h4=>⟨_,H3,ah (.i .i64 e) (.inr rfl) h2 h1,h3,fun _=>by rw[h4]⟩;refine qV ?_;refine qG (qA ad (qA h0 OX)) fun K hK=>?_;refine WE.con (JV H p o hp hL) fun w H1 g1 hw=>?_;subst hw;refine qS ad ?_;refine hK _ _ ?_;clear hK K;have J4:=hp.gr g1;have B2:=hv.gr g1;cases o with
 | none=>
  refine qY ?_;refine qV ?_;exact fin 1 _ _ qp rfl g1 rfl
 | some ls=>
  refine qY ?_;by_cases Q7:(32:Int)<gs.length
  ·have c32:((32:Int)<gs.length)=True:=eq_true Q7;refine qW (qA ad (qA h1 (qA fu (qA B2.len (qA B2.lt c32))))) ?_;refine qY ?_;refine qV ?_;exact fin 3 _ _ qp rfl g1 (zB0 Q7).symm
  have c32:((32:Int)<gs.length)=False:=eq_false Q7;have q8:jS (some ls) gs=goG ls [] gs:=zB1 Q7;generalize E0:goG ls [] gs=r0 at q8;have hL:=hL ls rfl;refine qW (qA ad (qA h1 (qA fu (qA B2.len (qA B2.lt c32))))) ?_;refine qY ?_;refine qW (qA ad (qA h1 (qA fu (qA B2.len B2.lt)))) ?_;refine R1.aG fun K k1 k2 k3 k4=>?_;refine R1.loop (fun k A H2=>∃ i:Nat,k=gs.length - i∧i≤gs.length∧Gr H1 H2∧goG ls (gs.take i) (gs.drop i)=r0∧slot A.tm 0=.one p∧slot A.tm 1=.one v∧slot A.tm 14=.one v∧slot A.tm 15=.one (.i .i64 (gs.length:Int))∧slot A.tm 16=.one (.i .i64 (i:Int))∧A.nt=50∧A.dfr=[]) ?_ gs.length
   ⟨0,rfl,Nat.zero_le _,Fr.refl _,E0,?_⟩
  ·clear h0 h1 tm;rintro k A H2 ⟨i,rfl,hi,g2,hr,t0,t1,t14,t15,t16,B0,C0⟩;have X1:=B2.gr g2;refine qW (qA ad (qA t15 (qA t16 B0))) ?_;refine qE fun Kx Ky hx hy=>?_;refine cY (fun hc=>hx ?_) (fun hc=>hy ?_)
   ·clear hx hy Kx Ky;have D0:i<gs.length:=by omega
    obtain ⟨id,g,off,cells,rfl,hid,P0,L0⟩:=X1.open (by omega);have ex:gs[i]?=some gs[i]:=zB4 D0;have Q0:gs.drop i=gs[i]::gs.drop (i+1):=List.drop_eq_getElem_cons D0;have B1:gs.take (i+1)=gs.take i++[gs[i]]:=List.take_succ_eq_append_getElem D0;have G0:gs[i]∈gs:=List.getElem_mem D0;generalize gs[i]=x at ex Q0 B1 G0;obtain ⟨u,K0⟩:=L0 i x ex;have V0:=zC0 i (by omega);have htl:(gs.take i).length≤1000000:=by rw[List.length_take];omega
    rw[Q0,goG] at hr;refine qV ?_;refine R1.aG fun K2 q1 q2 q3 q4=>?_;refine qG (qA ad (qA t14 (qA t16 (qA B0 (qA bI (qA nF (qA Dc (qA Dt (qA (ixC D0) (qA hid (qA P0 (qA K0.all K0.le)))))))))))) fun K hK=>?_;refine hK _ _ ?_;clear hK K;refine R1.gen (fun A3 H3=>Gr H2 H3∧H2.nx<H3.nx∧H3.get H2.nx=some (.arr [.o (.str x.1),.o (.str x.2.1),u] 104 0 0)∧slot A3.tm 0=.one p∧slot A3.tm 1=.one (.o (.sl id g off gs.length 3))∧slot A3.tm 5=.one (.i .i64 (i:Int))∧slot A3.tm 6=.one (.o (.ptr H2.nx 0 0 3))∧slot A3.tm 14=.one (.o (.sl id g off gs.length 3))∧slot A3.tm 15=.one (.i .i64 (gs.length:Int))∧slot A3.tm 16=.one (.i .i64 (i:Int))∧A3.nt=50∧A3.dfr=[])
     ⟨((Fr.refl _).new _).mod _ (.inl (zA1 _)),?_⟩ ?_
    ·exact qZ (qA t0 (qA t1 (qA t14 (qA t15 (qA t16 (qA B0 C0))))))
    clear t0 t1 t14 t15 t16 B0 C0 A;rintro A H3 ⟨g3,n3,rx,t0,t1,t5,t6,t14,t15,t16,B0,C0⟩;have g3':=g1.gr (g2.gr g3);refine qG (qA ad (qA t6 (qA B0 (qA rx (qA n3 (qA fH (qA aO fM))))))) fun K hK=>?_;refine WE.gp (ri x.1) fun H4 g4 n4 e4=>?_;have rx:H4.get H2.nx=some (.arr [.o (.str x.1),.o (.str x.2.1),u] 104 0 0):=(e4 _).trans rx;rw[←n4] at n3;have g4':=g3'.gr g4;have g24:Gr H2 H4:=g3.gr g4;cases D7:nmB x.1 with
    | false=>
     rw[zB0 D7] at hr;refine qS (qA ad B0) ?_;refine hK _ _ ?_;clear hK K;refine qY ?_;refine qW B0 ?_;exact q4 _ _ (k4 _ _ (fin 50 _ _ qp (qd C0) g4' (by rw[q8,←hr])))
    | true=>
     rw[zB1 (by rw[D7];decide)] at hr;have hv4:=(X1.gr g24);have htk4:=SlR.take hv4 (n:=i) (by omega);refine qS (qA ad (qA t1 (qA t5 (qA t6 (qA B0 (qA rx (qA n3 (qA fH (qA aO (qA bI (qA sE (slH (Nat.le_of_lt D0))))))))))))) ?_;refine WE.con (oM H4 _ (gs.take i) x.1 htk4 htl) fun w H5 g5 hw=>?_;subst hw;have rx:H5.get H2.nx=some (.arr [.o (.str x.1),.o (.str x.2.1),u] 104 0 0):=by rw[g5.get _ n3 zB2];exact rx
     have n5:H2.nx<H5.nx:=zA0 n3 g5.nx;have g5':=g4'.gr g5;have g25:=g24.gr g5;by_cases U6:0≤bp 0 (gs.take i) x.1
     ·have cge:(0≤bp 0 (gs.take i) x.1)=True:=eq_true U6;rw[zB0 U6] at hr;refine qS (qA ad (qA B0 cge)) ?_;refine hK _ _ ?_;clear hK K;refine qY ?_;refine qW B0 ?_;exact q4 _ _ (k4 _ _ (fin 50 _ _ qp (qd C0) g5' (by rw[q8,←hr])))
     have cge:(0≤bp 0 (gs.take i) x.1)=False:=eq_false U6;rw[zB1 U6] at hr;refine qS (qA ad (qA B0 cge)) ?_;refine hK _ _ ?_;clear hK K;refine qY ?_;refine R1.aT ?_;have hp5:cU H5 p (some ls):=J4.gr (g2.gr g25);refine qG (qA ad (qA t0 (qA t6 (qA B0 (qA rx (qA n5 (qA cu (qA aO sD)))))))) fun K hK=>?_;refine WE.con (oZ H5 p (some ls) x.2.1 hp5 (fun ls' h=>by cases h;exact hL)) fun w H6 g6 ⟨c,hw,ha,W0⟩=>?_;subst hw;have g6':=g5'.gr g6;refine qS (qA ad (qA B0 (qA dX (qA fW W0)))) ?_;refine hK _ _ ?_;clear hK K;have g7:Gr H6 ((H6.new (.arr [.o (.str []),.o .nilS] 97 0 0)).mod H6.nx (.arr c 97 0 0)):=((Fr.refl _).new _).mod _ (.inl (zA1 _));have rx:((H6.new (.arr [.o (.str []),.o .nilS] 97 0 0)).mod H6.nx (.arr c 97 0 0)).get H2.nx=some (.arr [.o (.str x.1),.o (.str x.2.1),u] 104 0 0):=by
      have hlt6:H2.nx<H6.nx:=zA0 n5 g6.nx;rw[g7.get _ hlt6 zB2,g6.get _ n5 zB2];exact rx
     have n7:H2.nx<((H6.new (.arr [.o (.str []),.o .nilS] 97 0 0)).mod H6.nx (.arr c 97 0 0)).nx:=zA0 (zA0 n5 g6.nx) g7.nx;have g7':=g6'.gr g7;have g27:=(g25.gr g6).gr g7;generalize ((H6.new (.arr [.o (.str []),.o .nilS] 97 0 0)).mod H6.nx (.arr c 97 0 0))=H7 at rx n7 g7' g27 ⊢;refine qW (qA ad B0) ?_;refine qE fun Kx Ky hx hy=>?_;refine cY (fun hd=>hx ?_) (fun hd=>hy ?_)
     ·clear hx hy Kx Ky;have Z0:fT (some ls) x.2.1≠0:=by simpa using hd
      rw[zB0 Z0] at hr;refine qW B0 ?_;exact q4 _ _ (k4 _ _ (fin 4 _ _ qp (qd C0) g7' (by rw[q8,←hr])))
     clear hx hy Kx Ky;have hz:fT (some ls) x.2.1=0:=by simpa using hd
     rw[zB1 (fun h=>h hz)] at hr;have hv7:=X1.gr g27;have hu7:SlS H7 u x.2.2:=K0.of.gr g27;have htk7:=SlR.take hv7 (n:=i) (by omega);refine R1.aT ?_;refine qG (qA ad (qA t1 (qA t5 (qA t6 (qA B0 (qA rx (qA n7 (qA nF (qA bI (qA (slH (Nat.le_of_lt D0)) Jq)))))))))) fun K hK=>?_;refine WE.con (Gs H7 _ (gs.take i) x u htk7 hu7 htl (hB x G0)) fun w H8 g8 hw=>?_;subst hw;have g8':=g7'.gr g8;have g28:=g27.gr g8;refine qS (qA ad B0) ?_;refine hK _ _ ?_;clear hK K;cases hgt:oL (gs.take i) x with
     | false=>
      rw[zB0 hgt] at hr;refine qY ?_;refine qW B0 ?_;exact q4 _ _ (k4 _ _ (fin 50 _ _ qp (qd C0) g8' (by rw[q8,←hr])))
     | true=>
      rw[zB1 (by rw[hgt];decide),←B1] at hr;refine qY ?_;refine qW B0 ?_;refine q1 _ _ ?_;refine qW (qA B0 (qA t16 V0)) ?_;refine ⟨gs.length - (i+1),by omega,i+1,rfl,D0,g2.gr g28,hr,?_,?_,?_,?_,?_,?_,?_⟩
      ·simp only[aa,Nat.reduceEqDiff,reduceIte,t0]
      ·simp only[aa,Nat.reduceEqDiff,reduceIte,t1]
      ·simp only[aa,Nat.reduceEqDiff,reduceIte,t14]
      ·simp only[aa,Nat.reduceEqDiff,reduceIte,t15]
      ·simp only[aa,Nat.reduceEqDiff,reduceIte]
      ·simp only[aw,B0]
      simp only[aj,C0]
   clear hx hy Kx Ky;have C2:i=gs.length:=by omega
   rw[C2,List.drop_length,goG] at hr;refine qW B0 ?_;refine k2 _ _ ?_;refine qW B0 ?_;exact fin 0 _ _ qp (qd C0) (g1.gr g2) (by rw[q8,←hr])
  simp only[aa,Nat.reduceEqDiff,reduceIte,aw,aj,h0,h1,and_self,true_and];exact ⟨rfl,trivial⟩
section
variable {st:Bool} {E:Env} {A:ab} {H:Hp} {next:ab→Hp→Prop} {d:Option Tmp} {ty:TypeId} {pos:String} {af:Array Edge} {gd:Option (Nat×Bool)}
theorem mF {t:TypeId} {x i:Operand}:SK st E ⟨d,.index t x i,ty,pos,af,gd⟩ A H next=vN next A d (iI H (nq E.P t) (ev A.tm x) (ev A.tm i) (aq E.P A.tm H ⟨d,.index t x i,ty,pos,af,gd⟩)):=jX
theorem Ui {s:List UInt8} {n:Nat} {b:UInt8} {k:IntKind} {alt:ae} (h:s[n]?=some b):iI H true (.one (.o (.str s))) (.one (.i k (n:Int))) alt=.val (.one (.i .u8 (b.toNat:Int))) H:=by
 show nd (VJ n s) _ _=_;rw[Ll,h];rfl
theorem WG {c:UInt8} {s:List UInt8} {k:IntKind} {alt:ae}:iI H true (.one (.o (.str (c::s)))) (.one (.i k 0)) alt=.val (.one (.i .u8 (c.toNat:Int))) H:=rfl
end
theorem kX:ak Tryz.prog 80=true:=by kernel_rfl
theorem Lr (c:UInt8):okB c=(decide ((c.toNat:Int)=95)||(decide (97≤(c.toNat:Int))&&decide ((c.toNat:Int)≤122))||(decide (48≤(c.toNat:Int))&&decide ((c.toNat:Int)≤57))):=by
 rw[Bool.eq_iff_iff,BT];simp only[Bool.or_eq_true,Bool.and_eq_true,decide_eq_true_eq,or_assoc]
theorem HG (c:UInt8) (l:List UInt8):nmB (c::l)=(decide (l.length+1≤16)&&(decide (97≤(c.toNat:Int))&&decide ((c.toNat:Int)≤122))&&(c::l).all okB):=by
 unfold nmB;have e1:decide (97≤(c.toNat:Int))=decide ((97:UInt8)≤c):=by
  rw[decide_eq_decide,UInt8.le_iff_toNat_le];show (97:Int)≤c.toNat↔97≤c.toNat;omega
 have e2:decide ((c.toNat:Int)≤122)=decide (c≤(122:UInt8)):=by
  rw[decide_eq_decide,UInt8.le_iff_toNat_le];show (c.toNat:Int)≤122↔c.toNat≤122;omega
 rw[e1,e2];simp only[List.isEmpty_cons,Bool.not_false,Bool.true_and,List.length_cons,Bool.and_assoc]
theorem dT (H:Hp) (s:List UInt8):Con E2 80 [.one (.o (.str s))] H (fun _=>False) fun v _=>v=.one (.b (nmB s)):=by
 refine Con.of rfl fun lg=>?_;generalize (⟨H.t,H.nx,lg⟩:Hp)=H;refine C1.body (E:=E2) (nt:=52) (res:=[.tmp 2]) Tryz.func80 rfl rfl rfl rfl rfl fun tm A0=>?_;have h0:=A0 0 _ rfl;clear A0;cases s with
 | nil=>
  refine qW ad ?_;repeat refine R1.aE ?_
  refine R1.ow fun K hK=>?_;simp only[qB,aC,Nat.reduceLT,Int.reduceLT,ad,h0,sk];refine hK _ _ ?_;clear hK K;refine qY ?_;refine qV ?_;exact ⟨_,_,ah (.b false) (.inr rfl) rfl qp,Fr.refl _,fun _=>rfl⟩
 | cons c l=>
  have M7:(((l.length+1:Nat):Int)<1)=False:=eq_false (by omega);refine qW ad ?_;repeat refine R1.aE ?_
  refine R1.ow fun K hK=>?_;simp only[qB,aC,Nat.reduceLT,ad,h0,sk,M7];repeat' (refine Lj (fun hc=>?_) (fun hc=>?_) <;> (try simp only[Classical.not_not] at hc) <;> simp only[hc,qB,aC,Nat.reduceLT,ad,h0,mF,vv,WG])
  all_goals refine hK _ _ ?_
  all_goals clear hK K
  all_goals refine qE fun Kx Ky hx hy=>?_
  all_goals first|refine hx ?_|refine hy ?_|refine cY (fun hd=>hx ?_) (fun hd=>hy ?_)
  all_goals clear hx hy Kx Ky
  all_goals refine qV ?_
  all_goals first
   | (refine ⟨_,_,ah (.b false) (.inr rfl) rfl qp,Fr.refl _,fun _=>?_⟩
      have:nmB (c::l)=false:=Bool.eq_false_iff.2 fun h=>by
       rw[HG] at h;simp only[Bool.and_eq_true,decide_eq_true_eq] at h;omega
      rw[this];done)
   | skip
  rename_i hl16
  have D7:nmB (c::l)=(c::l).all okB:=by
   rw[HG,decide_eq_true (by omega:l.length+1≤16),decide_eq_true (by omega:97≤(c.toNat:Int)),decide_eq_true (by omega:(c.toNat:Int)≤122)];rfl
  rw[D7];clear D7 M7 hc hd;generalize hs:c::l=s at h0 ⊢;have hlen:s.length≤16:=by rw[←hs,List.length_cons];omega
  clear hl16 hs;refine R1.aG fun K k1 k2 k3 k4=>?_;refine R1.loop (fun m A1 H1=>∃ i:Nat,m=s.length - i∧i≤s.length∧H1=H∧(s.take i).all okB=true∧slot A1.tm 0=.one (.o (.str s))∧slot A1.tm 3=.one (.i .i64 (i:Int))∧A1.nt=52∧A1.dfr=[]) ?_ s.length
   ⟨0,rfl,Nat.zero_le _,rfl,rfl,?_,?_,rfl,rfl⟩
  ·clear h0 tm;rintro m A1 H1 ⟨i,rfl,hi,rfl,T1,t0,t3,B0,C0⟩;refine qW (qA ad (qA t0 (qA t3 (qA B0 sk)))) ?_;refine qE fun Kx Ky hx hy=>?_;refine cY (fun hc=>hx ?_) (fun hc=>hy ?_)
   ·clear hx hy Kx Ky;have D0:i<s.length:=by omega
    have hb:s[i]?=some s[i]:=zB4 D0;have B1:s.take (i+1)=s.take i++[s[i]]:=List.take_succ_eq_append_getElem D0;have G0:s[i]∈s:=List.getElem_mem D0;generalize s[i]=b at hb B1 G0;refine R1.aT (R1.aG fun K2 q1 q2 q3 q4=>?_);repeat refine R1.aE ?_
    refine R1.ow fun K hK=>?_;simp only[qB,aC,Nat.reduceLT,ad,t0,t3,B0,mF,vv,Ui hb];refine hK _ _ ?_;clear hK K;refine qG (qA ad B0) fun K hK=>?_;repeat' (refine Lj (fun hc=>?_) (fun hc=>?_) <;> (try simp only[Classical.not_not] at hc) <;> simp only[hc,qB,aC,Nat.reduceLT,ad,B0])
    all_goals refine hK _ _ ?_
    all_goals clear hK K
    all_goals refine qE fun Kx Ky hx hy=>?_
    all_goals first|refine hx ?_|refine hy ?_|refine cY (fun hd=>hx ?_) (fun hd=>hy ?_)
    all_goals clear hx hy Kx Ky
    all_goals (try simp only[beq_eq_false_iff_ne,ne_eq,Classical.not_not] at hd)
    all_goals refine qW (qA t3 B0) ?_
    all_goals first
     | (refine q4 _ _ (k4 _ _ ⟨_,_,ah (.b false) (.inr rfl) (qd C0) qp,Fr.refl _,fun _=>?_⟩)
        have C7:okB b=false:=Bool.eq_false_iff.2 fun h=>by
         rw[Lr] at h;simp only[Bool.or_eq_true,Bool.and_eq_true,decide_eq_true_eq] at h;omega
        have:s.all okB=false:=List.all_eq_false.2 ⟨b,G0,by rw[C7];decide⟩;rw[this];done)
     | (refine q1 _ _ ?_
        have B3:okB b=true:=by
         rw[Lr];simp only[Bool.or_eq_true,Bool.and_eq_true,decide_eq_true_eq];omega
        have V0:=zC0 i (by omega);refine qW (qA t3 (qA B0 V0)) ?_;refine ⟨s.length - (i+1),by omega,i+1,rfl,D0,rfl,by rw[B1,List.all_append,T1,List.all_cons,B3];rfl,?_,?_,?_,?_⟩
        ·simp only[aa,Nat.reduceEqDiff,reduceIte,t0]
        ·simp only[aa,Nat.reduceEqDiff,reduceIte]
        ·simp only[aw,B0]
        simp only[aj,C0])
   clear hx hy Kx Ky;have C2:i=s.length:=by omega
   refine qW B0 ?_;refine k2 _ _ ?_;refine qW B0 ?_;refine ⟨_,_,ah (.b true) (.inr rfl) (qd C0) qp,Fr.refl _,fun _=>?_⟩;rw[C2,List.take_length] at T1;rw[T1]
  all_goals simp only[aa,Nat.reduceEqDiff,reduceIte,h0]
  all_goals rfl
theorem yP:ak Tryz.prog 130=true:=by kernel_rfl
theorem Ag:ak Tryz.prog 131=true:=by kernel_rfl
theorem mQ:ak Tryz.prog 70=true:=by kernel_rfl
def lU:Nat→List Pr→List UInt8→Int
 | _,[],_=>-1
 | n,x::l,s=>if x.1=s then (n:Int) else lU (n+1) l s
theorem vD (H:Hp) (n:List UInt8) (u:AC) (us:List Pr) (s:List UInt8) (hu:SlP H u us) (hL:us.length≤1000000):
  Con E2 130 [.agg [.o (.str n),u],.one (.o (.str s))] H (fun _=>False) fun r _=>r=.one (.i .i64 (lU 0 us s)):=by
 refine Con.of rfl fun lg=>?_;have hu:SlP ⟨H.t,H.nx,lg⟩ u us:=hu;generalize (⟨H.t,H.nx,lg⟩:Hp)=H at hu ⊢;refine C1.body (E:=E2) (nt:=22) (res:=[.tmp 4]) Tryz.func130 rfl rfl rfl rfl rfl fun tm A0=>?_;have h0:=A0 0 _ rfl;have h1:=A0 1 _ rfl;clear A0;generalize E0:lU 0 us s=r0;refine qG (qA ad h0) fun K hK=>?_;refine hK _ _ ?_;clear hK K;refine R1.gen (fun A1 H1=>Gr H H1∧H.nx<H1.nx∧H1.get H.nx=some (.arr [.o (.str n),u] 97 0 0)∧slot A1.tm 1=.one (.o (.str s))∧slot A1.tm 2=.one (.o (.ptr H.nx 0 0 2))∧A1.nt=22∧A1.dfr=[])
  ⟨(Fr.refl _).new _,?_⟩ ?_
 ·exact qZ h1
 rintro A1 H1 ⟨g1,lb,rb,t1,t2,B0,C0⟩;clear h0 h1 tm;have Q1:=hu.gr g1;refine qW B0 ?_;refine R1.aG fun K k1 k2 k3 k4=>?_;refine R1.loop (fun k A H2=>∃ i:Nat,k=us.length - i∧i≤us.length∧H2=H1∧lU i (us.drop i) s=r0∧slot A.tm 1=.one (.o (.str s))∧slot A.tm 2=.one (.o (.ptr H.nx 0 0 2))∧slot A.tm 5=.one (.i .i64 (i:Int))∧A.nt=22∧A.dfr=[]) ?_ us.length
  ⟨0,rfl,Nat.zero_le _,rfl,E0,?_⟩
 ·clear t1 t2 B0 C0 A1;rintro k A H2 ⟨i,rfl,hi,rfl,hr,t1,t2,t5,B0,C0⟩;refine qW (qA ad (qA t2 (qA t5 (qA B0 (qA rb (qA lb (qA cF (qA cC (qA dP (qA Q1.len Q1.lt)))))))))) ?_;refine qE fun Kx Ky hx hy=>?_;refine cY (fun hc=>hx ?_) (fun hc=>hy ?_)
  ·clear hx hy Kx Ky;have D0:i<us.length:=by omega
   obtain ⟨id,g,off,cells,rfl,hid,P0,L0⟩:=Q1.open (by omega);have ex:us[i]?=some us[i]:=zB4 D0;have Q0:us.drop i=us[i]::us.drop (i+1):=List.drop_eq_getElem_cons D0;generalize us[i]=x at ex Q0;have K0:=L0 i x ex;have V0:=zC0 i (by omega);rw[Q0,lU] at hr;refine qV ?_;refine R1.aG fun K2 q1 q2 q3 q4=>?_;refine qG (qA ad (qA t1 (qA t2 (qA t5 (qA B0 (qA rb (qA lb (qA cF (qA cC (qA gW (qA bQ (qA aO (qA (ixC D0) (qA hid (qA P0 (qA K0.fst K0.le1)))))))))))))))) fun K hK=>?_;refine hK _ _ ?_;clear hK K;by_cases R4:x.1=s
   ·rw[zB0 R4] at hr;have ce:lEq x.1 s=true:=by rw[bO,R4,beq_self_eq_true]
    refine qX ce ?_;refine qW (qA B0 t5) ?_;exact q4 _ _ (k4 _ _ ⟨_,_,ah (.i .i64 (i:Int)) (.inr rfl) (qd C0) qp,g1,fun _=>by rw[←hr]⟩)
   rw[zB1 R4] at hr;have ce:lEq x.1 s=false:=by rw[bO];exact zB5 R4
   refine qX ce ?_;refine qW B0 ?_;refine q1 _ _ ?_;refine qW (qA B0 (qA t5 V0)) ?_;refine ⟨us.length - (i+1),by omega,i+1,rfl,D0,rfl,hr,?_,?_,?_,?_,?_⟩
   ·simp only[aa,Nat.reduceEqDiff,reduceIte,t1]
   ·simp only[aa,Nat.reduceEqDiff,reduceIte,t2]
   ·simp only[aa,Nat.reduceEqDiff,reduceIte]
   ·simp only[aw,B0]
   simp only[aj,C0]
  clear hx hy Kx Ky;have C2:i=us.length:=by omega
  rw[C2,List.drop_length,lU] at hr;refine qW B0 ?_;refine k2 _ _ ?_;refine qW B0 ?_;exact ⟨_,_,ah (.i .i64 (-1)) (.inr rfl) (qd C0) qp,g1,fun _=>by rw[←hr]⟩
 simp only[aa,Nat.reduceEqDiff,reduceIte,aw,aj,t1,t2,B0,C0,and_self,true_and];exact ⟨rfl,trivial⟩
def kI:Int→List Pr→Option (List Int)
 | _,[]=>some []
 | v,x::l=>if 1099511627776<v*x.2 then none else (kI (v*x.2) l).map (v*x.2::·)
def tK (n:Int):List AC:=[.i .i64 n]
theorem Ew (n:Int):(tK n).length=1:=rfl
def SlI (H:Hp) (v:AC) (l:List Int):Prop:=SlC H v 1 l.length (l.flatMap tK)
theorem wc (H:Hp) (n:List UInt8) (u:AC) (us:List Pr) (hu:SlP H u us) (hL:us.length≤1000000) (hf:∀ x∈us,1≤x.2∧x.2≤60):
  Con E2 131 [.agg [.o (.str n),u]] H (fun _=>False) fun r H'=>∃ c,r=.tup [(false,[c]),(false,[.b (kI 1 us).isSome])]∧SlI H' c ((kI 1 us).getD []):=by
 refine Con.of rfl fun lg=>?_;have hu:SlP ⟨H.t,H.nx,lg⟩ u us:=hu;generalize (⟨H.t,H.nx,lg⟩:Hp)=H at hu ⊢;refine C1.body (E:=E2) (nt:=29) (res:=[.tmp 2,.tmp 3]) Tryz.func131 rfl rfl rfl rfl rfl fun tm A0=>?_;have h0:=A0 0 _ rfl;clear A0;generalize E0:kI 1 us=r0;refine qG (qA ad h0) fun K hK=>?_;refine hK _ _ ?_;clear hK K;refine R1.gen (fun A1 H1=>Gr H H1∧H.nx<H1.nx∧H1.get H.nx=some (.arr [.o (.str n),u] 97 0 0)∧slot A1.tm 1=.one (.o (.ptr H.nx 0 0 2))∧A1.nt=29∧A1.dfr=[])
  ⟨(Fr.refl _).new _,?_⟩ ?_
 ·exact qU
 rintro A1 H1 ⟨g1,lb,rb,t1,B0,C0⟩;clear h0 tm;obtain ⟨zi,w_,E6⟩:=xm;refine qW B0 ?_;refine R1.aG fun K k1 k2 k3 k4=>?_;refine R1.loop (fun k A H2=>∃ (i:Nat) (out:List Int) (v:Int) (v4:AC) (r:Option Nat),k=us.length - i∧i≤us.length∧out.length=i∧Gr H1 H2∧1≤v∧v≤1099511627776∧(kI v (us.drop i)).map (out++·)=r0∧dm H2 v4 3 1 out.length (out.flatMap tK) r∧(∀ q,r=some q→H1.nx≤q) ∧
  slot A.tm 1=.one (.o (.ptr H.nx 0 0 2))∧slot A.tm 4=.one v4∧slot A.tm 5=.one (.i .i64 v)∧slot A.tm 6=.one (.i .i64 (i:Int))∧A.nt=29∧A.dfr=[]) ?_ us.length
  ⟨0,[],1,.o .nilS,none,rfl,Nat.zero_le _,rfl,Fr.refl _,by omega,by omega,?_,.inl ⟨rfl,rfl,rfl,rfl⟩,fun q hq=>(by cases hq),?_⟩
 ·clear t1 B0 C0 A1;rintro k A H2 ⟨i,out,v,v4,r,rfl,hi,Z3,g2,B2,X1,hr,P1,I1,t1,t4,t5,t6,B0,C0⟩;have rb2:H2.get H.nx=some (.arr [.o (.str n),u] 97 0 0):=by rw[g2.get _ lb zB2];exact rb
  have lb2:H.nx<H2.nx:=zA0 lb g2.nx;have Y2:=(hu.gr g1).gr g2;refine qW (qA ad (qA t1 (qA t6 (qA B0 (qA rb2 (qA lb2 (qA cF (qA cC (qA dP (qA Y2.len Y2.lt)))))))))) ?_;refine qE fun Kx Ky hx hy=>?_;refine cY (fun hc=>hx ?_) (fun hc=>hy ?_)
  ·clear hx hy Kx Ky;have D0:i<us.length:=by omega
   obtain ⟨id,g,off,cells,rfl,hid,P0,L0⟩:=Y2.open (by omega);have ex:us[i]?=some us[i]:=zB4 D0;have Q0:us.drop i=us[i]::us.drop (i+1):=List.drop_eq_getElem_cons D0;have hff:=hf us[i] (List.getElem_mem D0);generalize us[i]=x at ex Q0 hff;have K0:=L0 i x ex;have V0:=zC0 i (by omega);have G':1≤v*x.2:=by
    have:=Int.mul_le_mul B2 hff.1 (by omega) (by omega);omega
   have hmul2:v*x.2≤1099511627776*60:=Int.mul_le_mul X1 hff.2 (by omega) (by omega);have hwm:IntKind.i64.wrap (v*x.2)=v*x.2:=ao (by omega) (by omega);rw[Q0,kI] at hr;refine qV ?_;refine R1.aG fun K2 q1 q2 q3 q4=>?_;refine qG (qA ad (qA t1 (qA t5 (qA t6 (qA B0 (qA rb2 (qA lb2 (qA cF (qA cC (qA gW (qA cx (qA bV (qA (ixC D0) (qA hid (qA P0 (qA K0.snd (qA K0.le2 hwm))))))))))))))))) fun K hK=>?_;refine hK _ _ ?_;clear hK K;refine qW B0 ?_;by_cases M0:1099511627776<v*x.2
   ·have cb:(1099511627776<v*x.2)=True:=eq_true M0;rw[zB0 M0] at hr;refine qX cb ?_;refine qW B0 ?_;refine q4 _ _ (k4 _ _ ⟨_,_,aQ (.o .nilS) (.b false) (.inr rfl) (qd C0) qp qp,g1.gr g2,fun _=>?_⟩);rw[←hr];exact ⟨_,rfl,by simp[SlI],.inl ⟨rfl,rfl⟩⟩
   have cb:(1099511627776<v*x.2)=False:=eq_false M0;rw[zB1 M0] at hr;obtain ⟨N4,v6,H6,r6,U1,p_,G7,hr6⟩:=gZ fv sA w_ E6 (by decide) P1 [.i .i64 (v*x.2)] rfl (by omega);refine qX cb ?_;refine R1.aT ?_;refine qG (qA ad (qA t4 (qA B0 (qA fv (qA oV (qA iz (qA U1 N4))))))) fun K hK=>?_;refine ⟨N4,?_⟩;refine hK _ _ ?_;clear hK K;refine q1 _ _ ?_;refine qW (qA B0 (qA t6 V0)) ?_;refine ⟨us.length - (i+1),by omega,i+1,out++[v*x.2],v*x.2,v6,some r6,rfl,D0,by rw[List.length_append,Z3];rfl,g2.then G7 fun q hq=>.inl (I1 q hq),G',by omega,?_,?_,fun q hq=>?_,?_,?_,?_,?_,?_,?_⟩
   ·rw[←hr,Option.map_map];congr 1
    funext l
    simp
   ·have e2:(out++[v*x.2]).flatMap tK=out.flatMap tK++[.i .i64 (v*x.2)]:=by rw[List.flatMap_append];rfl
    rw[List.length_append,e2];exact p_
   ·cases hq
    rcases hr6 with h|h
    ·exact I1 _ h
    exact zA2 g2.nx h
   ·simp only[aa,Nat.reduceEqDiff,reduceIte,t1]
   ·simp only[aa,Nat.reduceEqDiff,reduceIte]
   ·simp only[aa,Nat.reduceEqDiff,reduceIte]
   ·simp only[aa,Nat.reduceEqDiff,reduceIte]
   ·simp only[aw,B0]
   simp only[aj,C0]
  clear hx hy Kx Ky;have C2:i=us.length:=by omega
  rw[C2,List.drop_length,kI] at hr;refine qW B0 ?_;refine k2 _ _ ?_;refine qW (qA B0 t4) ?_;refine ⟨_,_,aQ v4 (.b true) (.inr rfl) (qd C0) qp qp,g1.gr g2,fun _=>?_⟩;rw[←hr];refine ⟨_,rfl,?_⟩;have e:((Option.map (fun x=>out++x) (some [])).getD [])=out:=by simp
  rw[e];exact P1.slc
 ·rw[List.drop_zero,E0];cases r0 <;> simp
 simp only[aa,Nat.reduceEqDiff,reduceIte,aw,aj,t1,B0,C0,and_self,true_and];exact ⟨rfl,trivial⟩
def kW (us:List Pr) (i:Nat) (x:Pr):Bool:=nmB x.1&&(decide (lU 0 us x.1=(i:Int))&&(if i=0 then x.2==1 else decide (2≤x.2)&&decide (x.2≤60)))
def gG (n:List UInt8) (us:List Pr):Bool:=nmB n&&decide (1≤us.length)&&decide (us.length≤12)&&((List.range us.length).all fun i=>kW us i (us.getD i ([],0)))&&(kI 1 us).isSome
theorem kE {n:List UInt8} {us:List Pr} {i:Nat} {x:Pr} (hx:us[i]?=some x) (h:kW us i x=false):(if gG n us=true then 0 else 10)=(10:Int):=by
 have D0:i<us.length:=(List.getElem?_eq_some_iff.1 hx).1;have:((List.range us.length).all fun i=>kW us i (us.getD i ([],0)))=false:=List.all_eq_false.2 ⟨i,List.mem_range.2 D0,by rw[List.getD_eq_getElem?_getD,hx];show ¬kW us i x=true;rw[h];decide⟩;unfold gG;rw[this,Bool.and_false,Bool.false_and];rfl
theorem ue:∀ (v:Int) (us:List Pr),(yv v us).length=us.length↔(∀ x∈us,1≤x.2∧x.2≤60)∧(kI v us).isSome=true
 | _,[]=>⟨fun _=>⟨fun x hx=>(by cases hx),rfl⟩,fun _=>rfl⟩
 | v,u::us=>by
  unfold yv kI;have ih:=ue (v*u.2) us;by_cases h:u.2<1∨60<u.2∨1099511627776<v*u.2
  ·rw[zB0 h];refine ⟨fun h'=>(by simp at h'),fun ⟨h1,h2⟩=>?_⟩;have h3:=h1 u (List.mem_cons_self ..);have h4:1099511627776<v*u.2:=by omega
   rw[zB0 h4] at h2;cases h2
  rw[zB1 h,zB1 (by omega),List.length_cons,List.length_cons,List.forall_mem_cons,Option.isSome_map];constructor
  ·intro h';obtain ⟨a,b⟩:=ih.1 (by omega);exact ⟨⟨by omega,a⟩,b⟩
  rintro ⟨⟨_,a⟩,b⟩;have:=ih.2 ⟨a,b⟩;omega
theorem CP:∀ (n:Nat) (us:List Pr) (i:Nat) (x:Pr),us[i]?=some x→(lU n us x.1=((n+i:Nat):Int)↔((us.take i).any fun y=>y.1==x.1)=false)
 | _,[],_,_,h=>by simp at h
 | n,u::us,0,x,h=>by
  simp only[List.getElem?_cons_zero,Option.some.injEq] at h;subst h;unfold lU;rw[zB0 rfl];exact ⟨fun _=>rfl,fun _=>rfl⟩
 | n,u::us,i+1,x,h=>by
  rw[List.getElem?_cons_succ] at h;unfold lU;rw[List.take_succ_cons,List.any_cons];by_cases hu:u.1=x.1
  ·rw[zB0 hu,hu,beq_self_eq_true,Bool.true_or];exact ⟨fun h=>by omega,fun h=>by cases h⟩
  rw[zB1 hu,zB5 hu,Bool.false_or];have:=CP (n+1) us i x h;have e:n+1+i=n+(i+1):=by omega
  rw[e] at this;exact this
theorem OP (n:List UInt8) (us:List Pr):gG n us=gq n us:=by
 rw[Bool.eq_iff_iff];unfold gG gq;simp only[Bool.and_eq_true,decide_eq_true_eq,List.all_eq_true,List.mem_range,Bool.not_eq_true',beq_eq_false_iff_ne];have L0:∀ i,i<us.length→∃ x,us[i]?=some x∧us.getD i ([],0)=x:=fun i hi=>⟨us[i],zB4 hi,by rw[List.getD_eq_getElem?_getD,zB4 hi];rfl⟩;constructor
 ·rintro ⟨⟨⟨⟨h1,h2⟩,h3⟩,h4⟩,h5⟩;have fac:∀ x∈us,1≤x.2∧x.2≤60:=fun x hx=>by
   obtain ⟨i,hi,rfl⟩:=List.getElem_of_mem hx;have:=h4 i hi;rw[List.getD_eq_getElem?_getD,zB4 hi] at this;unfold kW at this;simp only[Option.getD_some,Bool.and_eq_true] at this;have h6:=this.2.2;split at h6
   ·have:=eq_of_beq h6;omega
   simp only[Bool.and_eq_true,decide_eq_true_eq] at h6;omega
  refine ⟨⟨⟨⟨h1,by omega⟩,by omega⟩,(ue 1 us).2 ⟨fac,h5⟩⟩,fun i hi=>?_⟩;obtain ⟨x,hx,hxd⟩:=L0 i hi;have h6:=h4 i hi;rw[hxd] at h6 ⊢;unfold kW at h6;unfold okU;simp only[Bool.and_eq_true,decide_eq_true_eq] at h6;have h7:=(CP 0 us i x hx).1 (by rw[Nat.zero_add];exact h6.2.1);rw[h6.1,h7];have h8:=h6.2.2;by_cases V2:i=0
  ·rw[zB0 V2] at h8;rw[h8,V2];rfl
  rw[zB1 V2] at h8;simp only[Bool.and_eq_true,decide_eq_true_eq] at h8;rw[zB5 (by omega:x.2≠1),zB5 (by omega:(i:Int)≠0)];rfl
 rintro ⟨⟨⟨⟨h1,h2⟩,h3⟩,h4⟩,h5⟩;obtain ⟨fac,hv⟩:=(ue 1 us).1 h4;refine ⟨⟨⟨⟨h1,by omega⟩,by omega⟩,fun i hi=>?_⟩,hv⟩;obtain ⟨x,hx,hxd⟩:=L0 i hi;have h6:=h5 i hi;rw[hxd] at h6 ⊢;unfold okU at h6;unfold kW;simp only[Bool.and_eq_true,Bool.not_eq_true'] at h6;have h7:=(CP 0 us i x hx).2 h6.1.2;rw[Nat.zero_add] at h7;have hfx:=fac x (List.mem_of_getElem? hx);rw[h6.1.1,h7,decide_eq_true rfl];have h8:=eq_of_beq h6.2;by_cases V2:i=0
 ·rw[zB0 V2,h8,V2];rfl
 rw[zB1 V2];rw[zB5 (by omega:(i:Int)≠0)] at h8;have:x.2≠1:=fun h=>by rw[h] at h8;cases h8
 rw[decide_eq_true (by omega:2≤x.2),decide_eq_true (by omega:x.2≤60)];rfl
theorem lM (H:Hp) (n:List UInt8) (u:AC) (us:List Pr) (hu:SlP H u us):
  Con E2 70 [.agg [.o (.str n),u]] H (fun _=>False) fun r _=>r=.one (.i .i64 (bE n us)):=by
 refine Con.of rfl fun lg=>?_;have hu:SlP ⟨H.t,H.nx,lg⟩ u us:=hu;generalize (⟨H.t,H.nx,lg⟩:Hp)=H at hu ⊢;unfold bE;rw[←OP];refine C1.body (E:=E2) (nt:=77) (res:=[.tmp 2]) Tryz.func70 rfl rfl rfl rfl rfl fun tm A0=>?_;have h0:=A0 0 _ rfl;clear A0;have fin:∀ (e:Int) (A:ab) (H3:Hp),slot A.tm 2=.one (.i .i64 e)→A.dfr=[]→Gr H H3→e=(if gG n us=true then 0 else 10)→∃ w H4,an E2 [.tmp 2] (.ret,A,H3)=.ok [(w,H4)]∧Gr H H4∧∀ _:List Nat,w=.one (.i .i64 (if gG n us=true then 0 else 10)):=fun e A H3 h1 h2 h3 h4=>⟨_,H3,ah (.i .i64 e) (.inr rfl) h2 h1,h3,fun _=>by rw[h4]⟩;refine qG (qA ad h0) fun K hK=>?_;refine hK _ _ ?_;clear hK K;refine R1.gen (fun A1 H1=>Gr H H1∧H.nx<H1.nx∧H1.get H.nx=some (.arr [.o (.str n),u] 97 0 0)∧slot A1.tm 1=.one (.o (.ptr H.nx 0 0 2))∧A1.nt=77∧A1.dfr=[])
  ⟨(Fr.refl _).new _,?_⟩ ?_
 ·exact qU
 rintro A1 H1 ⟨g1,lb,rb,t1,B0,C0⟩;clear h0 tm;refine qG (qA ad (qA t1 (qA B0 (qA rb (qA lb (qA fq (qA aO kX))))))) fun K hK=>?_;refine WE.con (dT H1 n) fun w H2 g2 hw=>?_;subst hw;have g2':=g1.gr g2;have Y2:=hu.gr g2';have rb:H2.get H.nx=some (.arr [.o (.str n),u] 97 0 0):=by rw[g2.get _ lb zB2];exact rb
 have lb:H.nx<H2.nx:=zA0 lb g2.nx;cases D7:nmB n with
 | false=>
  refine qS (qA ad B0) ?_;refine hK _ _ ?_;clear hK K;refine qY ?_;refine qW B0 ?_;exact fin 10 _ _ qp (qd C0) g2' (by unfold gG;rw[D7];rfl)
 | true=>
  by_cases h1:(us.length:Int)<1
  ·have c1:((us.length:Int)<1)=True:=eq_true h1;refine qS (qA ad (qA t1 (qA B0 (qA rb (qA lb (qA cF (qA cC (qA dP (qA Y2.len (qA Y2.lt c1)))))))))) ?_;refine hK _ _ ?_;clear hK K;refine qY ?_;refine qW B0 ?_;exact fin 10 _ _ qp (qd C0) g2' (by unfold gG;rw[decide_eq_false (by omega:¬1≤us.length)];simp)
  have c1:((us.length:Int)<1)=False:=eq_false h1;by_cases h12:(12:Int)<us.length
  ·have c12:((12:Int)<us.length)=True:=eq_true h12;refine qS (qA ad (qA t1 (qA B0 (qA rb (qA lb (qA cF (qA cC (qA dP (qA Y2.len (qA Y2.lt (qA c1 c12))))))))))) ?_;refine hK _ _ ?_;clear hK K;refine qY ?_;refine qW B0 ?_;exact fin 10 _ _ qp (qd C0) g2' (by unfold gG;rw[decide_eq_false (by omega:¬us.length≤12)];simp)
  have c12:((12:Int)<us.length)=False:=eq_false h12;refine qS (qA ad (qA t1 (qA B0 (qA rb (qA lb (qA cF (qA cC (qA dP (qA Y2.len (qA Y2.lt (qA c1 c12))))))))))) ?_;refine hK _ _ ?_;clear hK K;refine qY ?_;refine qW B0 ?_;refine R1.aG fun K k1 k2 k3 k4=>?_;refine R1.loop (fun k A H3=>∃ i:Nat,k=us.length - i∧i≤us.length∧Gr H2 H3∧(∀ j,j<i→kW us j (us.getD j ([],0))=true)∧slot A.tm 1=.one (.o (.ptr H.nx 0 0 2))∧slot A.tm 3=.one (.i .i64 (i:Int))∧A.nt=77∧A.dfr=[]) ?_ us.length
   ⟨0,rfl,Nat.zero_le _,Fr.refl _,fun j hj=>absurd hj (Nat.not_lt_zero j),?_⟩
  ·clear t1 B0 C0 A1;rintro k A H3 ⟨i,rfl,hi,g3,T1,t1,t3,B0,C0⟩;have m6:=Y2.gr g3;have rb:H3.get H.nx=some (.arr [.o (.str n),u] 97 0 0):=by rw[g3.get _ lb zB2];exact rb
   have lb:H.nx<H3.nx:=zA0 lb g3.nx;refine qW (qA ad (qA t1 (qA t3 (qA B0 (qA rb (qA lb (qA cF (qA cC (qA dP (qA m6.len m6.lt)))))))))) ?_;refine qE fun Kx Ky hx hy=>?_;refine cY (fun hc=>hx ?_) (fun hc=>hy ?_)
   ·clear hx hy Kx Ky;have D0:i<us.length:=by omega
    have V0:=zC0 i (by omega);obtain ⟨id,g,off,cells,rfl,hid,P0,L0⟩:=m6.open (by omega);have ex:us[i]?=some us[i]:=zB4 D0;generalize us[i]=x at ex;have K0:=L0 i x ex;refine qV ?_;refine R1.aG fun K2 q1 q2 q3 q4=>?_;refine qG (qA ad (qA t1 (qA t3 (qA B0 (qA rb (qA lb (qA cF (qA cC (qA gW (qA qh (qA nD (qA lA (qA (ixC D0) (qA hid (qA P0 (qA K0.all (qA K0.le eK))))))))))))))))) fun K hK=>?_;refine hK _ _ ?_;clear hK K;refine R1.gen (fun A4 H4=>Gr H3 H4∧H3.nx<H4.nx∧H4.get H3.nx=some (.arr (prC x) 165 0 0)∧slot A4.tm 1=.one (.o (.ptr H.nx 0 0 2))∧slot A4.tm 3=.one (.i .i64 (i:Int))∧slot A4.tm 4=.one (.o (.ptr H3.nx 0 0 2))∧A4.nt=77∧A4.dfr=[])
     ⟨((Fr.refl _).new _).mod _ (.inl (zA1 _)),?_⟩ ?_
    ·exact qZ (qA t1 (qA t3 (qA B0 (qA C0 eK))))
    clear t1 t3 B0 C0 A;rintro A H4 ⟨g4,lx,rx,t1,t3,t4,B0,C0⟩;have rb:H4.get H.nx=some (.arr [.o (.str n),.o (.sl id g off us.length 2)] 97 0 0):=by rw[g4.get _ lb zB2];exact rb
    have lb:H.nx<H4.nx:=zA0 lb g4.nx;refine qG (qA ad (qA t4 (qA B0 (qA rx (qA lx (qA bQ (qA aO (qA eK kX)))))))) fun K hK=>?_;refine WE.con (dT H4 x.1) fun w H5 g5 hw=>?_;subst hw;have rb:H5.get H.nx=some (.arr [.o (.str n),.o (.sl id g off us.length 2)] 97 0 0):=by rw[g5.get _ lb zB2];exact rb
    have lb:H.nx<H5.nx:=zA0 lb g5.nx;have rx:H5.get H3.nx=some (.arr (prC x) 165 0 0):=by rw[g5.get _ lx zB2];exact rx
    have lx:H3.nx<H5.nx:=zA0 lx g5.nx;have g25:Gr H2 H5:=(g3.gr g4).gr g5;cases L1:nmB x.1 with
    | false=>
     refine qS (qA ad (qA t1 (qA t3 (qA t4 (qA B0 (qA rx (qA lx (qA rb (qA lb (qA bQ (qA cx (qA aO (qA bV (qA eK L1)))))))))))))) ?_;refine hK _ _ ?_;clear hK K;refine qY ?_;refine qW B0 ?_;exact q4 _ _ (k4 _ _ (fin 10 _ _ qp (qd C0) (g2'.gr g25) (by rw[kE ex (by unfold kW;rw[L1];rfl)])))
    | true=>
     have T9:=Y2.gr g25;refine qS (qA ad (qA t1 (qA t3 (qA t4 (qA B0 (qA rx (qA lx (qA rb (qA lb (qA bQ (qA cx (qA aO (qA bV (qA eK (qA ca yP))))))))))))))) ?_;refine WE.con (vD H5 n _ us x.1 T9 (by omega)) fun w H6 g6 hw=>?_;subst hw;have rx:H6.get H3.nx=some (.arr (prC x) 165 0 0):=by rw[g6.get _ lx zB2];exact rx
     have lx:H3.nx<H6.nx:=zA0 lx g6.nx;have g26:=g25.gr g6;by_cases E7:lU 0 us x.1=(i:Int)
     ·have cix:(lU 0 us x.1==(i:Int))=true:=by rw[beq_iff_eq];exact E7
      by_cases V2:i=0
      ·have ci0:((i:Int)==0)=true:=by rw[beq_iff_eq];omega
       have ci1:(0<(i:Int))=False:=eq_false (by omega);cases hf1:(x.2==1) with
       | false=>
        refine qS (qA ad (qA t1 (qA t3 (qA t4 (qA B0 (qA rx (qA lx (qA rb (qA lb (qA bQ (qA cx (qA aO (qA bV (qA eK (qA cix (qA ci0 hf1)))))))))))))))) ?_;refine hK _ _ ?_;clear hK K;refine qY ?_;refine qW B0 ?_;exact q4 _ _ (k4 _ _ (fin 10 _ _ qp (qd C0) (g2'.gr g26) (by rw[kE ex (by unfold kW;rw[zB0 V2,hf1,Bool.and_false,Bool.and_false])])))
       | true=>
        have B3:kW us i x=true:=by unfold kW;rw[L1,decide_eq_true E7,zB0 V2,hf1];rfl
        refine qS (qA ad (qA t1 (qA t3 (qA t4 (qA B0 (qA rx (qA lx (qA rb (qA lb (qA bQ (qA cx (qA aO (qA bV (qA eK (qA cix (qA ci0 (qA hf1 ci1))))))))))))))))) ?_;refine hK _ _ ?_;clear hK K;refine qY ?_;refine qW B0 ?_;refine q1 _ _ ?_;refine qW (qA B0 (qA t3 V0)) ?_;refine ⟨us.length - (i+1),by omega,i+1,rfl,D0,g26,fun j hj=>?_,?_,?_,?_,?_⟩
        ·rcases Nat.lt_or_ge j i with h|h
         ·exact T1 j h
         have:j=i:=by omega
         subst this;rw[List.getD_eq_getElem?_getD,ex];exact B3
        ·simp only[aa,Nat.reduceEqDiff,reduceIte,t1]
        ·simp only[aa,Nat.reduceEqDiff,reduceIte]
        ·simp only[aw,B0]
        simp only[aj,C0]
      have ci0:((i:Int)==0)=false:=zB5 (by omega);have ci1:(0<(i:Int))=True:=eq_true (by omega);by_cases hf2:x.2<2
      ·have cf2:(x.2<2)=True:=eq_true hf2;refine qS (qA ad (qA t1 (qA t3 (qA t4 (qA B0 (qA rx (qA lx (qA rb (qA lb (qA bQ (qA cx (qA aO (qA bV (qA eK (qA cix (qA ci0 (qA ci1 cf2))))))))))))))))) ?_;refine hK _ _ ?_;clear hK K;refine qY ?_;refine qW B0 ?_;exact q4 _ _ (k4 _ _ (fin 10 _ _ qp (qd C0) (g2'.gr g26) (by rw[kE ex (by unfold kW;rw[zB1 V2,decide_eq_false (by omega:¬2≤x.2),Bool.false_and,Bool.and_false,Bool.and_false])])))
      have cf2:(x.2<2)=False:=eq_false hf2;by_cases hf60:60<x.2
      ·have cf60:(60<x.2)=True:=eq_true hf60;refine qS (qA ad (qA t1 (qA t3 (qA t4 (qA B0 (qA rx (qA lx (qA rb (qA lb (qA bQ (qA cx (qA aO (qA bV (qA eK (qA cix (qA ci0 (qA ci1 (qA cf2 cf60)))))))))))))))))) ?_;refine hK _ _ ?_;clear hK K;refine qY ?_;refine qW B0 ?_;exact q4 _ _ (k4 _ _ (fin 10 _ _ qp (qd C0) (g2'.gr g26) (by rw[kE ex (by unfold kW;rw[zB1 V2,decide_eq_false (by omega:¬x.2≤60),Bool.and_false,Bool.and_false,Bool.and_false])])))
      have cf60:(60<x.2)=False:=eq_false hf60;have B3:kW us i x=true:=by unfold kW;rw[L1,decide_eq_true E7,zB1 V2,decide_eq_true (by omega:2≤x.2),decide_eq_true (by omega:x.2≤60)];rfl
      refine qS (qA ad (qA t1 (qA t3 (qA t4 (qA B0 (qA rx (qA lx (qA rb (qA lb (qA bQ (qA cx (qA aO (qA bV (qA eK (qA cix (qA ci0 (qA ci1 (qA cf2 cf60)))))))))))))))))) ?_;refine hK _ _ ?_;clear hK K;refine qY ?_;refine qW B0 ?_;refine q1 _ _ ?_;refine qW (qA B0 (qA t3 V0)) ?_;refine ⟨us.length - (i+1),by omega,i+1,rfl,D0,g26,fun j hj=>?_,?_,?_,?_,?_⟩
      ·rcases Nat.lt_or_ge j i with h|h
       ·exact T1 j h
       have:j=i:=by omega
       subst this;rw[List.getD_eq_getElem?_getD,ex];exact B3
      ·simp only[aa,Nat.reduceEqDiff,reduceIte,t1]
      ·simp only[aa,Nat.reduceEqDiff,reduceIte]
      ·simp only[aw,B0]
      simp only[aj,C0]
     have cix:(lU 0 us x.1==(i:Int))=false:=zB5 E7;refine qS (qA ad (qA t1 (qA t3 (qA t4 (qA B0 (qA rx (qA lx (qA rb (qA lb (qA bQ (qA cx (qA aO (qA bV (qA eK cix)))))))))))))) ?_;refine hK _ _ ?_;clear hK K;refine qY ?_;refine qW B0 ?_;exact q4 _ _ (k4 _ _ (fin 10 _ _ qp (qd C0) (g2'.gr g26) (by rw[kE ex (by unfold kW;rw[decide_eq_false E7,Bool.false_and,Bool.and_false])])))
   clear hx hy Kx Ky;have C2:i=us.length:=by omega
   have hall':((List.range us.length).all fun i=>kW us i (us.getD i ([],0)))=true:=List.all_eq_true.2 fun j hj=>T1 j (by have:=List.mem_range.1 hj;omega);have fac:∀ x∈us,1≤x.2∧x.2≤60:=fun x hx=>by
    obtain ⟨j,hj,rfl⟩:=List.getElem_of_mem hx;have:=T1 j (by omega);rw[List.getD_eq_getElem?_getD,zB4 hj] at this;unfold kW at this;simp only[Option.getD_some,Bool.and_eq_true] at this;have h6:=this.2.2;split at h6
    ·have:=eq_of_beq h6;omega
    simp only[Bool.and_eq_true,decide_eq_true_eq] at h6;omega
   refine qW B0 ?_;refine k2 _ _ ?_;refine qG (qA ad (qA t1 (qA B0 (qA rb (qA lb (qA ca Ag)))))) fun K hK=>?_;refine WE.con (wc H3 n u us m6 (by omega) fac) fun w H5 g5 ⟨c,hw,_⟩=>?_;subst hw;refine qS (qA ad B0) ?_;refine hK _ _ ?_;clear hK K;have g5':=(g2'.gr g3).gr g5;cases Q5:(kI 1 us).isSome with
   | true=>
    refine qW B0 ?_;refine qY ?_;refine qW B0 ?_;refine fin 0 _ _ qp (qd C0) g5' ?_;have:gG n us=true:=by
     unfold gG;rw[D7,hall',Q5,decide_eq_true (by omega:1≤us.length),decide_eq_true (by omega:us.length≤12)];rfl
    rw[this];rfl
   | false=>
    refine qW B0 ?_;refine qY ?_;refine qW B0 ?_;refine fin 10 _ _ qp (qd C0) g5' ?_;have:gG n us=false:=by
     unfold gG;rw[Q5,Bool.and_false]
    rw[this];rfl
  simp only[aa,Nat.reduceEqDiff,reduceIte,aw,aj,t1,B0,C0,and_self,true_and];exact ⟨rfl,trivial⟩
theorem DJ:loadT Tryz.prog 145=some (true,2):=by kernel_rfl
theorem Hn:aU Tryz.prog 145=some 2:=by kernel_rfl
theorem xw:(ax Tryz.prog 145).map (fun z=>(ofValue z).cells)=some [.o .nilS,.o .nilS]:=by kernel_rfl
theorem EJ:aS Tryz.prog 145=4:=by kernel_rfl
theorem fz:aJ Tryz.prog 145 0=some (0,22,1):=by kernel_rfl
theorem vJ:aJ Tryz.prog 145 1=some (1,129,1):=by kernel_rfl
def xo:Nat→Option (Nat×Nat):=fun i=>(#[(0,1),(1,1)]:Array (Nat×Nat))[i]?
theorem uS:cH Tryz.prog 145=some xo:=by kernel_rfl
theorem wT:xo 0=some (0,1):=rfl
theorem wR:xo 1=some (1,1):=rfl
theorem yr:loadT Tryz.prog 30=some (false,1):=by kernel_rfl
theorem yJ:aU Tryz.prog 30=some 1:=by kernel_rfl
theorem Bo:(ax Tryz.prog 30).map (fun z=>(ofValue z).cells)=some [.o .nilP]:=by kernel_rfl
theorem om:aS Tryz.prog 30=0:=by kernel_rfl
theorem wA:ak Tryz.prog 72=true:=by kernel_rfl
theorem Tq:ak Tryz.prog 71=true:=by kernel_rfl
theorem VR:ak Tryz.prog 29=true:=by kernel_rfl
theorem xp:ak Tryz.prog 40=true:=by kernel_rfl
theorem tf (H:Hp) (n:List UInt8) (u:AC) (us:List Pr) (hu:SlP H u us) (hL:us.length≤1000000):
  Con E2 72 [.agg [.o (.str n),u]] H (fun _=>False) fun r H'=>∃ u',r=.agg [.o (.str n),u']∧SlP H' u' us∧∀ id∈(AV.one u').ids,H.nx≤id:=by
 refine Con.of rfl fun lg=>?_;have hu:SlP ⟨H.t,H.nx,lg⟩ u us:=hu;have e0:H.nx=(⟨H.t,H.nx,lg⟩:Hp).nx:=rfl;rw[e0];clear e0;generalize (⟨H.t,H.nx,lg⟩:Hp)=H at hu ⊢;refine C1.body (E:=E2) (nt:=11) (res:=[.cell 2 97]) Tryz.func72 rfl rfl rfl rfl rfl fun tm A0=>?_;have h0:=A0 0 _ rfl;clear A0;refine qG (qA ad (qA h0 dX)) fun K hK=>?_;refine hK _ _ ?_;clear hK K;refine R1.gen (fun A1 H1=>Gr H H1∧H.nx+1<H1.nx∧H1.get H.nx=some (.arr [.o (.str n),u] 97 0 0)∧H1.get (H.nx+1)=some (.arr [.o (.str []),.o .nilS] 97 0 0)∧slot A1.tm 1=.one (.o (.ptr H.nx 0 0 2))∧slot A1.tm 2=.one (.o (.ptr (H.nx+1) 0 0 2))∧A1.nt=11∧A1.dfr=[])
  ⟨((Fr.refl _).new _).new _,?_⟩ ?_
 ·exact qU
 rintro A1 H1 ⟨g1,n1,r1,r2,t1,t2,B0,C0⟩;clear h0 tm;have Q1:SlP H1 u us:=hu.gr g1;have l1:H.nx<H1.nx:=by omega
 have hlu:∀ id∈(AV.one u).ids,id<H1.nx:=Q1.lt;obtain ⟨z,hz,X0⟩:=Mq;refine qG (qA ad B0) fun K hK=>?_;refine hK _ _ ?_;clear hK K;repeat refine R1.aE ?_
 (first|refine R1.ED (ms:=[0,1,0,0,8,28,63,127]) (by kernel_rfl) (by kernel_rfl) fun K hK=>?_|refine R1.e_drw (ms:=[0,1,0,0,8,28,63,127]) (by kernel_rfl) (by kernel_rfl) fun K hK=>?_)
 simp (config:={decide:=true}) only [qB,aC,Nat.reduceLT,Nat.reduceLeDiff,Nat.reduceAdd,Nat.reduceSub,qD,cP,bB,ad,t1,B0,r1,l1,fq,cF,aO,cC]
 refine BN gW Lk hz X0 (by decide) Q1 (by omega) (fun id h=>by have:=hlu id h;simp (config:={decide:=true}) [bB,cP] <;> omega) fun v c1 H2 hv hvn g2 hc=>?_;subst hc;have r2:H2.get (H.nx+1)=some (.arr [.o (.str []),.o .nilS] 97 0 0):=by rw[g2.get _ n1 zB2];exact r2
 have n2:H.nx+1<H2.nx:=zA0 n1 g2.nx;simp (config:={decide:=true}) only [qB,Nat.reduceLeDiff,Nat.reduceAdd,qD,cP,ee,bB,t2,B0,MR dX px,qI,rz,fW,r2,n2]
 refine hK _ _ ?_;clear hK K;refine qV ?_;have G5:SlP (H2.mod (H.nx+1) (.arr [.o (.str n),v] 97 0 0)) v us:=SlC.fr hv (X:=fun k=>k=H.nx+1) ((Fr.refl _).mod _ (.inr rfl)) fun id h hh=>by have:=hvn id h;omega
 exact ⟨_,_,eF (id:=H.nx+1) (g:=0) ca (.inr rfl) (by simp only[aj,C0];rfl) (by simp only[aa,Nat.reduceEqDiff,reduceIte,t2]) (by rw[al rfl];exact bF (zA1 _) (zA1 _)) (zA1 _) rfl,(g1.gr g2).mod _ (.inl (Nat.le_succ _)),fun _=>⟨v,rfl,G5,fun id h=>by have:=hvn id h;omega⟩⟩
def RBk (H:Hp) (p:AC) (ls:List Lad):Prop:=∃ kb lad,p=.o (.ptr kb 0 0 2)∧kb<H.nx∧H.get kb=some (.arr [lad,.o .nilS] 145 0 0)∧fL H lad ls
theorem RBk.gr {H H':Hp} {p:AC} {ls:List Lad} (h:RBk H p ls) (hg:Gr H H'):RBk H' p ls:=by
 obtain ⟨kb,lad,h1,h2,h3,h4⟩:=h;exact ⟨kb,lad,h1,zA0 h2 hg.nx,by rw[hg.get _ h2 zB2];exact h3,h4.gr hg⟩
def atN:Nat→List Lad→List UInt8→Int
 | _,[],_=>-1
 | n,x::l,s=>if x.1=s then (n:Int) else atN (n+1) l s
theorem qa:∀ (n:Nat) (ls:List Lad) (s:List UInt8),atN n ls s=(gV n ls s).elim (-1) fun i=>(i:Int)
 | _,[],_=>rfl
 | n,x::l,s=>by
  unfold atN gV;by_cases h:x.1=s
  ·rw[zB0 h,zB0 h];rfl
  rw[zB1 h,zB1 h];exact qa (n+1) l s
theorem Mt (H:Hp) (p:AC) (ls:List Lad) (s:List UInt8) (hp:RBk H p ls) (hL:ls.length≤1000000):
  Con E2 71 [.one p,.one (.o (.str s))] H (fun _=>False) fun r _=>r=.one (.i .i64 (atN 0 ls s)):=by
 refine Con.of rfl fun lg=>?_;have hp:RBk ⟨H.t,H.nx,lg⟩ p ls:=hp;generalize (⟨H.t,H.nx,lg⟩:Hp)=H at hp ⊢;refine C1.body (E:=E2) (nt:=26) (res:=[.tmp 4]) Tryz.func71 rfl rfl rfl rfl rfl fun tm A0=>?_;have h0:=A0 0 _ rfl;have h1:=A0 1 _ rfl;clear A0;obtain ⟨kb,lad,rfl,k1,k2,hl⟩:=hp;generalize E0:atN 0 ls s=r0;refine qV ?_;refine R1.aG fun K k1' k2' k3 k4=>?_;refine R1.loop (fun k A H2=>∃ i:Nat,k=ls.length - i∧i≤ls.length∧H2=H∧atN i (ls.drop i) s=r0∧slot A.tm 0=.one (.o (.ptr kb 0 0 2))∧slot A.tm 1=.one (.o (.str s))∧slot A.tm 5=.one (.i .i64 (i:Int))∧A.nt=26∧A.dfr=[]) ?_ ls.length
  ⟨0,rfl,Nat.zero_le _,rfl,E0,?_⟩
 ·clear h0 h1 tm;rintro k A H2 ⟨i,rfl,hi,rfl,hr,t0,t1,t5,B0,C0⟩;refine qW (qA ad (qA t0 (qA t5 (qA B0 (qA k1 (qA k2 (qA fz (qA jH (qA iD (qA hl.len hl.lt)))))))))) ?_;refine qE fun Kx Ky hx hy=>?_;refine cY (fun hc=>hx ?_) (fun hc=>hy ?_)
  ·clear hx hy Kx Ky;have D0:i<ls.length:=by omega
   obtain ⟨id,g,off,cells,rfl,hid,P0,L0⟩:=hl.open (by omega);have ex:ls[i]?=some ls[i]:=zB4 D0;have Q0:ls.drop i=ls[i]::ls.drop (i+1):=List.drop_eq_getElem_cons D0;generalize ls[i]=x at ex Q0;obtain ⟨u,hu,X8,K0,L2,hx3,hx4,hx5⟩:=L0 i x ex;have V0:=zC0 i (by omega);rw[Q0,atN] at hr;refine qV ?_;refine R1.aG fun K2 q1 q2 q3 q4=>?_;refine qG (qA ad (qA t0 (qA t1 (qA t5 (qA B0 (qA k1 (qA k2 (qA fz (qA jH (qA fa (qA fq (qA aO (qA (ixC D0) (qA hid (qA P0 (qA L2 hx4)))))))))))))))) fun K hK=>?_;refine hK _ _ ?_;clear hK K;by_cases R4:x.1=s
   ·rw[zB0 R4] at hr;have ce:lEq x.1 s=true:=by rw[bO,R4,beq_self_eq_true]
    refine qX ce ?_;refine qW (qA B0 t5) ?_;exact q4 _ _ (k4 _ _ ⟨_,_,ah (.i .i64 (i:Int)) (.inr rfl) (qd C0) qp,Fr.refl _,fun _=>by rw[←hr]⟩)
   rw[zB1 R4] at hr;have ce:lEq x.1 s=false:=by rw[bO];exact zB5 R4
   refine qX ce ?_;refine qW B0 ?_;refine q1 _ _ ?_;refine qW (qA B0 (qA t5 V0)) ?_;refine ⟨ls.length - (i+1),by omega,i+1,rfl,D0,rfl,hr,?_,?_,?_,?_,?_⟩
   ·simp only[aa,Nat.reduceEqDiff,reduceIte,t0]
   ·simp only[aa,Nat.reduceEqDiff,reduceIte,t1]
   ·simp only[aa,Nat.reduceEqDiff,reduceIte]
   ·simp only[aw,B0]
   simp only[aj,C0]
  clear hx hy Kx Ky;have C2:i=ls.length:=by omega
  rw[C2,List.drop_length,atN] at hr;refine qW B0 ?_;refine k2' _ _ ?_;refine qW B0 ?_;exact ⟨_,_,ah (.i .i64 (-1)) (.inr rfl) (qd C0) qp,Fr.refl _,fun _=>by rw[←hr]⟩
 simp only[aa,Nat.reduceEqDiff,reduceIte,aw,aj,h0,h1,and_self,true_and];exact ⟨rfl,trivial⟩
structure RB (n0 kb:Nat) (ll:List Lad) (H1:Hp) (lad:AC) (r1:Option Nat):Prop where
 kbg:H1.get kb=some (.arr [lad,.o .nilS] 145 0 0)
 o1:∃ css:List (List AC),dm H1 lad 97 2 ll.length (css.flatMap id) r1∧Al (fun c x=>c.length=2∧∃ u,c=[.o (.str x.1),u]∧SlP H1 u x.2∧∀ id∈(AV.one u).ids,id≠kb∧some id≠r1) css ll
 kn:n0≤kb∧kb<H1.nx
 n1:∀ q,r1=some q→n0≤q∧q<H1.nx∧q≠kb
section
variable {n0 kb:Nat} {ll:List Lad} {H1 H2:Hp} {lad:AC} {r1:Option Nat}
theorem RB.Kd (h:RB n0 kb ll H1 lad r1) (hg:Gr H1 H2):RB n0 kb ll H2 lad r1 where
 kbg:=by rw[hg.get _ h.kn.2 zB2];exact h.kbg
 o1:=let ⟨css,a,b⟩:=h.o1;⟨css,a.fr hg fun _ _ h=>h,b.mono fun c x ⟨hc,u,e,hu,hi⟩=>⟨hc,u,e,hu.gr hg,hi⟩⟩
 kn:=⟨h.kn.1,zA0 h.kn.2 hg.nx⟩
 n1:=fun q hq=>let ⟨a,b,c⟩:=h.n1 q hq;⟨a,zA0 b hg.nx,c⟩
theorem RB.Xh (h:RB n0 kb ll H1 lad r1) {x:Lad} {u v5:AC} {r5:Nat} {H5:Hp} (hu:SlP H1 u x.2) (hi:∀ id∈(AV.one u).ids,id≠kb∧some id≠r1)
  {css:List (List AC)} (v8:Al (fun c x=>c.length=2∧∃ u,c=[.o (.str x.1),u]∧SlP H1 u x.2∧∀ id∈(AV.one u).ids,id≠kb∧some id≠r1) css ll)
  (ho:dm H5 v5 97 2 (ll.length+1) (css.flatMap id++[.o (.str x.1),u]) (some r5)) (hf:Fr (fun i=>r1=some i) H1 H5) (hr:r1=some r5∨H1.nx≤r5):
  RB n0 kb (ll++[x]) (H5.mod kb (.arr [v5,.o .nilS] 145 0 0)) v5 (some r5):=by
 have r5kb:r5≠kb:=by
  rcases hr with e|e
  ·exact (h.n1 _ e).2.2
  have:=h.kn.2;omega
 have n0le:n0≤H1.nx:=zA2 h.kn.1 (Nat.le_of_lt h.kn.2);have lt5:r5<H5.nx:=by
  rcases ho with ⟨_,_,_,e⟩|⟨id,lo,gen,e,_,_,_,_,hl⟩
  ·cases e
  cases e;exact hl
 have keep:∀ {c:List AC} {x:Lad},(c.length=2∧∃ u,c=[.o (.str x.1),u]∧SlP H1 u x.2∧∀ id∈(AV.one u).ids,id≠kb∧some id≠r1) →
   c.length=2∧∃ u,c=[.o (.str x.1),u]∧SlP (H5.mod kb (.arr [v5,.o .nilS] 145 0 0)) u x.2∧∀ id∈(AV.one u).ids,id≠kb∧some id≠some r5:=by
  rintro c x ⟨hc,u,e,hu,hi⟩;refine ⟨hc,u,e,SlC.fr (SlC.fr hu hf fun i h' e=>(hi i h').2 e.symm) dC fun i h' e=>(hi i h').1 e,fun i h'=>⟨(hi i h').1,fun e=>?_⟩⟩;cases e
  rcases hr with e|e
  ·exact (hi _ h').2 e.symm
  have:=hu.lt _ h';omega
 refine ⟨al rfl,⟨css++[[.o (.str x.1),u]],?_,?_⟩,⟨h.kn.1,zA0 h.kn.2 hf.nx⟩,?_⟩
 ·rw[List.length_append,List.length_singleton,List.flatMap_append];exact ho.fr dC fun i hi e=>by cases hi;exact r5kb e
 ·exact Al.app (v8.mono fun c x hc=>keep hc) (keep ⟨rfl,u,rfl,hu,hi⟩)
 intro q hq;cases hq
 refine ⟨?_,lt5,r5kb⟩;rcases hr with e|e
 ·exact (h.n1 _ e).1
 omega
theorem RB.book (h:RB n0 kb ll H1 lad r1):RBk H1 (.o (.ptr kb 0 0 2)) ll:=by
 obtain ⟨css,a,b⟩:=h.o1;exact ⟨kb,lad,rfl,h.kn.2,h.kbg,css,a.slc,b.mono fun c x ⟨hc,u,e,hu,_⟩=>⟨hc,u,e,hu⟩⟩
end
theorem Uo (H:Hp) (v:AC) (ls:List Lad) (hl:fL H v ls):
  Con E2 29 [.one v,.one (.o .nilS)] H (fun _=>False) fun r H'=>∃ p,r=.tup [(false,[p]),(false,[.i .i64 (nj ls)])]∧(nj ls=0→RBk H' p ls)∧(nj ls≠0→p=.o .nilP):=by
 refine Con.of rfl fun lg=>?_;have hl:fL ⟨H.t,H.nx,lg⟩ v ls:=hl;generalize (⟨H.t,H.nx,lg⟩:Hp)=H at hl ⊢;refine C1.body (E:=E2) (nt:=86) (res:=[.tmp 4,.tmp 5]) Tryz.func29 rfl rfl rfl rfl rfl fun tm A0=>?_;have h0:=A0 0 _ rfl;have h1:=A0 1 _ rfl;clear A0;have lnB:eT Tryz.prog 129=some 1:=by kernel_rfl
 by_cases Q7:(32:Int)<ls.length
 ·have c32:((32:Int)<ls.length)=True:=eq_true Q7;refine qW ad ?_;refine qG (qA ad (qA h0 (qA h1 (qA iD (qA hl.len (qA hl.lt c32)))))) fun K hK=>?_;refine hK _ _ ?_;clear hK K;refine qY ?_;refine qV ?_;refine ⟨_,_,aQ (.o .nilP) (.i .i64 3) (.inr rfl) rfl (by simp only[aa,Nat.reduceEqDiff,reduceIte]) qp,Fr.refl _,fun _=>?_⟩;have:nj ls=3:=zB0 Q7;rw[this];exact ⟨_,rfl,fun h=>(by cases h),fun _=>rfl⟩
 have c32:((32:Int)<ls.length)=False:=eq_false Q7;refine qW ad ?_;refine qG (qA ad (qA h0 (qA h1 (qA iD (qA hl.len (qA hl.lt (qA c32 lnB))))))) fun K hK=>?_;refine hK _ _ ?_;clear hK K;refine qY ?_;refine R1.aT ?_;refine qG (qA ad (qA xw uS)) fun K hK=>?_;refine hK _ _ ?_;clear hK K;refine R1.gen (fun A1 H1=>Gr H H1∧RB H.nx H.nx [] H1 (.o .nilS) none∧slot A1.tm 0=.one v∧slot A1.tm 1=.one (.o .nilS)∧slot A1.tm 6=.one (.o (.ptr H.nx 0 0 2))∧A1.nt=86∧A1.dfr=[])
  ⟨(Fr.refl _).new _,⟨aB rfl,⟨[],.inl ⟨rfl,rfl,rfl,rfl⟩,trivial⟩,⟨zA1 _,zA6 _⟩,fun q h=>(by cases h)⟩,?_⟩ ?_
 ·exact qZ (qA h0 h1)
 clear h0 h1 tm;rintro A1 H1 ⟨g1,nb,t0,t1,t6,B0,C0⟩;obtain ⟨kb,hkb⟩:∃ k,k=H.nx:=⟨_,rfl⟩;rw[←hkb] at t6;have nb:RB H.nx kb [] H1 (.o .nilS) none:=by rw[hkb];exact nb
 clear hkb;have U3:nj ls=qz [] ls:=zB1 Q7;rw[U3];generalize E0:qz [] ls=r0;refine qW B0 ?_;refine R1.aG fun K k1 k2 k3 k4=>?_;refine R1.loop (fun k A2 H2=>∃ (i:Nat) (lad:AC) (r1:Option Nat),k=ls.length - i∧i≤ls.length∧RB H.nx kb (ls.take i) H2 lad r1∧Gr H H2∧qz (ls.take i) (ls.drop i)=r0 ∧
  slot A2.tm 0=.one v∧slot A2.tm 1=.one (.o .nilS)∧slot A2.tm 6=.one (.o (.ptr kb 0 0 2))∧slot A2.tm 7=.one (.i .i64 (i:Int))∧A2.nt=86∧A2.dfr=[]) ?_ ls.length
  ⟨0,_,_,rfl,Nat.zero_le _,nb,g1,E0,?_⟩
 ·clear t0 t1 t6 B0 C0 A1;rintro k A H1 ⟨i,lad,r1,rfl,hi,nb,g1,hr,t0,t1,t6,t7,B0,C0⟩;have M7:=hl.gr g1;refine qW (qA ad (qA t0 (qA t7 (qA B0 (qA iD (qA M7.len M7.lt)))))) ?_;refine qE fun Kx Ky hx hy=>?_;refine cY (fun hc=>hx ?_) (fun hc=>hy ?_)
  ·clear hx hy Kx Ky;have D0:i<ls.length:=by omega
   obtain ⟨id,g,off,cells,rfl,N5,j8,L0⟩:=hl.open (by omega);have hid:id<H1.nx:=zA0 N5 g1.nx;have hg:rowOf (H1.get id) g=some cells:=by rw[g1.get _ N5 zB2];exact j8
   have ex:ls[i]?=some ls[i]:=zB4 D0;have Q0:ls.drop i=ls[i]::ls.drop (i+1):=List.drop_eq_getElem_cons D0;have B1:ls.take (i+1)=ls.take i++[ls[i]]:=List.take_succ_eq_append_getElem D0;generalize ls[i]=x at ex Q0 B1;obtain ⟨u,hu0,X8,K0,L2,hx3,hx4,hx5⟩:=L0 i x ex;have hu:SlP H1 u x.2:=hu0.gr g1;have V4:(ls.take i).length=i:=by rw[List.length_take];omega
   have hi32:ls.length≤32:=by omega
   have V0:=zC0 i (by omega);rw[Q0,qz] at hr;refine qV ?_;refine R1.aG fun K2 q1 q2 q3 q4=>?_;refine qG (qA ad (qA t0 (qA t7 (qA B0 (qA fa (qA ca (qA (ixC D0) (qA hid (qA hg (qA X8 (qA K0 mQ))))))))))) fun K hK=>?_;refine WE.con (lM H1 x.1 u x.2 hu) fun w H4 g4 hv=>?_;subst hv;have nb4:=nb.Kd g4;have g4':=g1.gr g4;have O2:id<H4.nx:=zA0 hid g4.nx;have hg4:rowOf (H4.get id) g=some cells:=by rw[g4.get _ hid zB2];exact hg
   refine qS (qA ad B0) ?_;refine hK _ _ ?_;clear hK K;refine qW (qA ad B0) ?_;refine qE fun Kx Ky hx hy=>?_;refine cY (fun hd=>hx ?_) (fun hd=>hy ?_)
   ·clear hx hy Kx Ky;have Z0:bE x.1 x.2≠0:=by simpa using hd
    rw[zB0 Z0] at hr;subst hr;refine qW (qA ad B0) ?_;refine q4 _ _ (k4 _ _ ⟨_,_,aQ (.o .nilP) (.i .i64 (bE x.1 x.2)) (.inr rfl) (qd C0) (by simp only[aa,Nat.reduceEqDiff,reduceIte]) qp,g4',fun _=>⟨_,rfl,fun h=>absurd h Z0,fun _=>rfl⟩⟩)
   clear hx hy Kx Ky;have hz:bE x.1 x.2=0:=by simpa using hd
   rw[zB1 (fun h=>h hz)] at hr;have hL12:=iZ hz;refine R1.aT ?_;refine qG (qA ad (qA t0 (qA t6 (qA t7 (qA B0 (qA fa (qA fq (qA aO (qA (ixC D0) (qA O2 (qA hg4 (qA L2 (qA hx4 Tq))))))))))))) fun K hK=>?_;refine WE.con (Mt H4 _ (ls.take i) x.1 nb4.book (by omega)) fun w H5 g5 hw=>?_;subst hw;have nb5:=nb4.Kd g5;have g5':=g4'.gr g5;have M5:id<H5.nx:=zA0 O2 g5.nx;have hg5:rowOf (H5.get id) g=some cells:=by rw[g5.get _ O2 zB2];exact hg4
   cases C4:gV 0 (ls.take i) x.1 with
   | some j=>
    have cge:(0≤atN 0 (ls.take i) x.1)=True:=eq_true (by rw[qa,C4,Option.elim_some];omega);rw[zB0 (by rw[C4];rfl)] at hr;subst hr;refine qS (qA ad (qA B0 cge)) ?_;refine hK _ _ ?_;clear hK K;refine qY ?_;refine qW (qA ad B0) ?_;refine q4 _ _ (k4 _ _ ⟨_,_,aQ (.o .nilP) (.i .i64 2) (.inr rfl) (qd C0) (by simp only[aa,Nat.reduceEqDiff,reduceIte]) qp,g5',fun _=>⟨_,rfl,fun h=>(by cases h),fun _=>rfl⟩⟩)
   | none=>
    have cge:(0≤atN 0 (ls.take i) x.1)=False:=eq_false (by rw[qa,C4,Option.elim_none];omega);rw[zB1 (by rw[C4];decide)] at hr;refine qS (qA ad (qA B0 cge)) ?_;refine hK _ _ ?_;clear hK K;refine qY ?_;refine R1.aT ?_;have q_:H.nx≤kb:=nb5.kn.1;have lkb:=nb5.kn.2;have rkb:=nb5.kbg;have T9:SlP H5 u x.2:=hu0.gr g5';refine qH (qA ad (qA t0 (qA t6 (qA t7 (qA B0 (qA rkb (qA lkb (qA fz (qA jH (qA ca (qA fa (qA (ixC D0) (qA M5 (qA hg5 (qA X8 (qA K0 wA)))))))))))))))) fun K hK=>?_;refine WE.Rc (tf H5 x.1 u x.2 T9 (by omega)) fun w H6 g6 ⟨u',hv,hu',F1⟩=>?_;subst hv;have nb6:=nb5.Kd g6;obtain ⟨css,ho1,v8⟩:=nb6.o1;obtain ⟨zl,X0,hzll⟩:=Tx;obtain ⟨e_,v7,H7,r7,U1,j9,W4,hr7⟩:=gZ fa RV X0 hzll (by decide) ho1 [.o (.str x.1),u'] rfl (by rw[V4];omega);have rk7:H7.get kb=some (.arr [lad,.o .nilS] 145 0 0):=by rw[W4.get _ nb6.kn.2 (fun e=>(nb6.n1 _ e).2.2 rfl)];exact nb6.kbg
    have lk7:kb<H7.nx:=zA0 nb6.kn.2 W4.nx;have hui:∀ k∈(AV.one u').ids,k≠kb∧some k≠r1:=fun k h=>by
     have h5:=F1 k h;refine ⟨by omega,fun e=>?_⟩;have:=(nb5.n1 _ e.symm).2.1;omega
    have nb8:=nb6.Xh hu' hui v8 j9 W4 hr7;have g8:Gr H (H7.mod kb (.arr [v7,.o .nilS] 145 0 0)):=((g5'.gr g6).then W4 fun k hk=>.inl (nb6.n1 _ hk).1).mod _ (.inl q_);refine qS (qA ad (qA t6 (qA B0 (qA fa (qA dX (qA iz (qA e_ (qA U1 (qA rk7 (qA lk7 (qA fz uq))))))))))) ?_;refine ⟨e_,?_⟩;refine hK _ _ ?_;clear hK K;refine q1 _ _ ?_;refine qW (qA B0 (qA t7 V0)) ?_;rw[←B1] at nb8 hr;refine ⟨ls.length - (i+1),by omega,i+1,_,_,rfl,D0,nb8,g8,hr,?_,?_,?_,?_,?_,?_⟩
    ·simp only[aa,Nat.reduceEqDiff,reduceIte,t0]
    ·simp only[aa,Nat.reduceEqDiff,reduceIte,t1]
    ·simp only[aa,Nat.reduceEqDiff,reduceIte,t6]
    ·simp only[aa,Nat.reduceEqDiff,reduceIte]
    ·simp only[aw,B0]
    simp only[aj,C0]
  clear hx hy Kx Ky;have C2:i=ls.length:=by omega
  rw[C2,List.drop_length,qz] at hr;rw[C2,List.take_length] at nb;refine qW B0 ?_;refine k2 _ _ ?_;refine qW (qA ad B0) ?_;refine R1.aG fun K2 q1 q2 q3 q4=>?_;refine R1.round ?_;refine qW (qA ad (qA B0 (qA t1 lnB))) ?_;refine qY ?_;refine qW B0 ?_;refine q2 _ _ ?_;refine qW (qA ad (qA B0 t6)) ?_;refine ⟨_,_,aQ (.o (.ptr kb 0 0 2)) (.i .i64 0) (.inr rfl) (qd C0) qp qp,g1,fun _=>⟨_,by rw[←hr],fun _=>nb.book,fun h=>absurd hr.symm h⟩⟩
 simp only[aa,Nat.reduceEqDiff,reduceIte,aw,aj,t0,t1,t6,B0,C0,and_self,true_and];exact ⟨rfl,trivial⟩
theorem tq (H:Hp) (p:AC) (ls:List Lad) (s:List UInt8) (hp:RBk H p ls) (hL:∀ x∈ls,x.2.length≤1000000) (hL2:ls.length≤1000000):Con E2 40 [.one p,.one (.o (.str s))] H (fun _=>False) fun r H'=>
  ∃ c,r=.tup [(true,c),(false,[.i .i64 (fT (some ls) s)])]∧GG H' c (some ls) s∧c.length=2:=by
 refine Con.of rfl fun lg=>?_;have hp:RBk ⟨H.t,H.nx,lg⟩ p ls:=hp;generalize (⟨H.t,H.nx,lg⟩:Hp)=H at hp ⊢;refine C1.body (E:=E2) (nt:=21) (res:=[.cell 4 97,.tmp 5]) Tryz.func40 rfl rfl rfl rfl rfl fun tm A0=>?_;have h0:=A0 0 _ rfl;have h1:=A0 1 _ rfl;clear A0;refine qG (qA ad dX) fun K hK=>?_;refine hK _ _ ?_;clear hK K;refine R1.gen (fun A1 H1=>Gr H H1∧H.nx<H1.nx∧H1.get H.nx=some (.arr [.o (.str []),.o .nilS] 97 0 0)∧slot A1.tm 0=.one p∧slot A1.tm 1=.one (.o (.str s))∧slot A1.tm 4=.one (.o (.ptr H.nx 0 0 2))∧A1.nt=21∧A1.dfr=[])
  ⟨(Fr.refl _).new _,?_⟩ ?_
 ·exact qZ (qA h0 h1)
 rintro A1 H1 ⟨g1,n1,r4,t0,t1,t4,B0,C0⟩;clear h0 h1 tm;have J4:=hp.gr g1;have fin:∀ (A:ab) (H3:Hp) (c:List AC) (e:Int),slot A.tm 4=.one (.o (.ptr H.nx 0 0 2))→slot A.tm 5=.one (.i .i64 e)→A.dfr=[]→Gr H H3→H3.get H.nx=some (.arr c 97 0 0)→c.length=2→e=fT (some ls) s→GG H3 c (some ls) s →
   ∃ w H4,an E2 [.cell 4 97,.tmp 5] (.ret,A,H3)=.ok [(w,H4)]∧Gr H H4∧∀ lg':List Nat,∃ c,w=.tup [(true,c),(false,[.i .i64 (fT (some ls) s)])]∧GG ⟨H4.t,H4.nx,lg'⟩ c (some ls) s∧c.length=2:=fun A H3 c e h4 h5 hd hg hr hc he ha=>
  ⟨_,H3,jG (id:=H.nx) (g:=0) ca (.inr rfl) (by rw[hd];rfl) h4 (by rw[hr];exact bF (zA1 _) (zA1 _)) (zA1 _) hc h5,hg,fun _=>⟨c,by rw[he],ha,hc⟩⟩
 refine qG (qA ad (qA t0 (qA t1 (qA B0 Tq)))) fun K hK=>?_;refine WE.con (Mt H1 p ls s J4 hL2) fun v H3 g3 hv=>?_;subst hv;refine qS (qA ad B0) ?_;refine hK _ _ ?_;clear hK K;have a9:=J4.gr g3;have r4:H3.get H.nx=some (.arr [.o (.str []),.o .nilS] 97 0 0):=by rw[g3.get _ n1 zB2];exact r4
 have n3:H.nx<H3.nx:=zA0 n1 g3.nx;have g3':=g1.gr g3;cases Z':gV 0 ls s with
 | none=>
  have hle:fT (some ls) s=4:=by rw[iN,Z'];rfl
  have L0:atN 0 ls s=-1:=by rw[qa,Z'];rfl
  rw[L0];refine qW (qA ad B0) ?_;refine qY ?_;refine qW (qA ad (qA B0 (qA dX (qA px (qA t4 (qA fW (qA r4 n3))))))) ?_;exact fin _ _ _ 4 (by simp only[aa,Nat.reduceEqDiff,reduceIte,t4]) qp (qd C0) (g3'.mod _ (.inl (zA1 _))) (al rfl) rfl hle.symm ⟨fun _=>rfl,fun ls' i x h h2=>by cases h;rw[Z'] at h2;cases h2⟩
 | some i=>
  have hle:fT (some ls) s=0:=by rw[iN,Z'];rfl
  have L0:atN 0 ls s=(i:Int):=by rw[qa,Z'];rfl
  obtain ⟨x,hx,R4⟩:=IV Z';rw[L0];have ci:((i:Int)<0)=False:=eq_false (by omega);refine qW (qA ad (qA B0 ci)) ?_;refine qY ?_;rename_i hx
  refine R1.aT ?_;obtain ⟨kb,lad,rfl,k1,k3,k5⟩:=a9;have D0:i<ls.length:=(List.getElem?_eq_some_iff.1 hx).1;obtain ⟨id,g,off,cells,rfl,hid,hg,X2⟩:=k5.open (by omega);obtain ⟨u,hu,X8,K0,_⟩:=X2 i x hx;refine qG (qA ad (qA t0 (qA B0 (qA k1 (qA k3 (qA fz (qA jH (qA fa (qA ca (qA (ixC D0) (qA hid (qA hg (qA X8 (qA K0 wA)))))))))))))) fun K hK=>?_;refine WE.con (tf H3 x.1 u x.2 hu (hL x (List.mem_of_getElem? hx))) fun w H6 g6 ⟨u',hv,hu',F1⟩=>?_;subst hv;have r4:H6.get H.nx=some (.arr [.o (.str []),.o .nilS] 97 0 0):=by rw[g6.get _ n3 zB2];exact r4
  have n6:H.nx<H6.nx:=zA0 n3 g6.nx;have hu6:SlP (H6.mod H.nx (.arr [.o (.str x.1),u'] 97 0 0)) u' x.2:=SlC.fr hu' dC fun k h e=>by have:=F1 k h;omega
  refine qS (qA ad (qA B0 (qA t4 (qA fW (qA r4 n6))))) ?_;refine hK _ _ ?_;clear hK K;refine qV ?_;exact fin _ _ _ 0 (by simp only[aa,Nat.reduceEqDiff,reduceIte,t4]) qp (qd C0) ((g3'.gr g6).mod _ (.inl (zA1 _))) (al rfl) rfl hle.symm ⟨fun h=>absurd hle h,fun ls' j y h h2 h3=>by
   cases h
   rw[Z'] at h2;cases h2
   rw[hx] at h3;cases h3
   exact ⟨u',rfl,hu6⟩⟩
theorem wx:ak Tryz.prog 42=true:=by kernel_rfl
theorem EH:ak Tryz.prog 81=true:=by kernel_rfl
theorem wY:ak Tryz.prog 32=true:=by kernel_rfl
theorem ky (H:Hp) (v:AC) (gs:List Gd) (s:List UInt8) (hv:SlG H v gs) (hL:gs.length≤1000000):
  Con E2 42 [.one v,.one (.o (.str s))] H (fun _=>False) fun r _=>r=.one (.i .i64 (bp 0 gs s)):=by
 refine Con.of rfl fun lg=>?_;have hv:SlG ⟨H.t,H.nx,lg⟩ v gs:=hv;generalize (⟨H.t,H.nx,lg⟩:Hp)=H at hv ⊢;refine C1.body (E:=E2) (nt:=20) (res:=[.tmp 4]) Tryz.func42 rfl rfl rfl rfl rfl fun tm A0=>?_;have h0:=A0 0 _ rfl;have h1:=A0 1 _ rfl;clear A0;generalize E0:bp 0 gs s=r0;refine qV ?_;refine R1.aG fun K k1 k2 k3 k4=>?_;refine R1.loop (fun k A H1=>∃ i:Nat,k=gs.length - i∧i≤gs.length∧H1=H∧bp i (gs.drop i) s=r0∧slot A.tm 0=.one v∧slot A.tm 1=.one (.o (.str s))∧slot A.tm 5=.one (.i .i64 (i:Int))∧A.nt=20∧A.dfr=[]) ?_ gs.length
  ⟨0,rfl,Nat.zero_le _,rfl,E0,?_⟩
 ·clear h0 h1 tm;rintro k A H1 ⟨i,rfl,hi,rfl,hr,t0,t1,t5,B0,C0⟩;refine qW (qA ad (qA t0 (qA t5 (qA B0 (qA fu (qA hv.len hv.lt)))))) ?_;refine qE fun Kx Ky hx hy=>?_;refine cY (fun hc=>hx ?_) (fun hc=>hy ?_)
  ·clear hx hy Kx Ky;have D0:i<gs.length:=by omega
   obtain ⟨id,g,off,cells,rfl,hid,P0,L0⟩:=hv.open (by omega);have ex:gs[i]?=some gs[i]:=zB4 D0;have Q0:gs.drop i=gs[i]::gs.drop (i+1):=List.drop_eq_getElem_cons D0;generalize gs[i]=x at ex Q0;obtain ⟨u,K0⟩:=L0 i x ex;have V0:=zC0 i (by omega);rw[Q0,bp] at hr;refine qV ?_;refine R1.aG fun K2 q1 q2 q3 q4=>?_;refine qG (qA ad (qA t0 (qA t1 (qA t5 (qA B0 (qA bI (qA fH (qA aO (qA (ixC D0) (qA hid (qA P0 (qA K0.f1 K0.le1)))))))))))) fun K hK=>?_;refine hK _ _ ?_;clear hK K;by_cases R4:x.1=s
   ·rw[zB0 R4] at hr;have ce:lEq x.1 s=true:=by rw[bO,R4,beq_self_eq_true]
    refine qX ce ?_;refine qW (qA B0 t5) ?_;exact q4 _ _ (k4 _ _ ⟨_,_,ah (.i .i64 (i:Int)) (.inr rfl) (qd C0) qp,Fr.refl _,fun _=>by rw[←hr]⟩)
   rw[zB1 R4] at hr;have ce:lEq x.1 s=false:=by rw[bO];exact zB5 R4
   refine qX ce ?_;refine qW B0 ?_;refine q1 _ _ ?_;refine qW (qA B0 (qA t5 V0)) ?_;refine ⟨gs.length - (i+1),by omega,i+1,rfl,D0,rfl,hr,?_,?_,?_,?_,?_⟩
   ·simp only[aa,Nat.reduceEqDiff,reduceIte,t0]
   ·simp only[aa,Nat.reduceEqDiff,reduceIte,t1]
   ·simp only[aa,Nat.reduceEqDiff,reduceIte]
   ·simp only[aw,B0]
   simp only[aj,C0]
  clear hx hy Kx Ky;have C2:i=gs.length:=by omega
  rw[C2,List.drop_length,bp] at hr;refine qW B0 ?_;refine k2 _ _ ?_;refine qW B0 ?_;exact ⟨_,_,ah (.i .i64 (-1)) (.inr rfl) (qd C0) qp,Fr.refl _,fun _=>by rw[←hr]⟩
 simp only[aa,Nat.reduceEqDiff,reduceIte,aw,aj,h0,h1,and_self,true_and];exact ⟨rfl,trivial⟩
end Go.Proofs.YtnhbkodnmkojpaaGreat
end

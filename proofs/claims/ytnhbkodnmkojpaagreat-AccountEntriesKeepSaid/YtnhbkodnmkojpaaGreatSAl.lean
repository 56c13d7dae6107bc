/- A part of the proof: BkGood, BkGath, BkCkg, BkRef1, BkRef2, BkFacts3, BkRef3, BkRef4, BkRef6, BkBooks, BkArg, BkStay, BkFacts4. No conditions. -/
import Derived.Test.YtnhbkodnmkojpaaGreatSAk
import Derived.KernelRfl
import Derived.Carry
set_option maxRecDepth 100000
set_option maxHeartbeats 64000000
set_option linter.unusedVariables false
set_option linter.unusedSimpArgs false
noncomputable section
namespace Go.Proofs.YtnhbkodnmkojpaaGreat
open Go Go.Eng
theorem ss:al Tryz.prog 77=true:=by kernel_rfl
theorem Jh:al Tryz.prog 139=true:=by kernel_rfl
theorem Jt:al Tryz.prog 138=true:=by kernel_rfl
def Wp (s:List UInt8):List AC:=[.o (.str s)]
theorem Tz (s:List UInt8):(Wp s).length=1:=rfl
def SlS (H:Hp) (v:AC) (l:List (List UInt8)):Prop:=SlC H v 1 l.length (l.flatMap Wp)
theorem SlS.gr {H H':Hp} {v:AC} {l:List (List UInt8)} (h:SlS H v l) (hg:Gr H H'):SlS H' v l:=SlC.gr h hg
theorem SlS.len {H:Hp} {v:AC} {l:List (List UInt8)} (h:SlS H v l):cG H 1 (.one v)=.val (.one (.i .i64 (l.length:Int))) H:=SlC.len h
theorem SlS.lt {H:Hp} {v:AC} {l:List (List UInt8)} (h:SlS H v l):ltV (.one v) H.nx:=lC h
theorem SlS.open {H:Hp} {v:AC} {l:List (List UInt8)} (h:SlS H v l) (hn:0<l.length):∃ id g off cells,v=.o (.sl id g off l.length 1)∧id<H.nx∧rowOf (H.get id) g=some cells∧∀ (i:Nat) (x:List UInt8),l[i]?=some x→(cells.drop (off+i*1)).headD (.b false)=.o (.str x)∧off+i*1+1≤cells.length:=by
 obtain ⟨id,g,off,h1,h2,hr⟩:=SlC.pos h hn;have Y2:=hr;obtain ⟨cells,h3,h6,h7⟩:=hr;refine ⟨id,g,off,cells,h1,h2,h3,fun i x hx=>?_⟩;obtain ⟨cells',k3,k6,k7⟩:=Rd.at (c:=Wp) Tz Y2 hx;rw[h3] at k3;cases k3
 refine ⟨?_,k6⟩;cases hd:cells.drop (off+i*1) with
 | nil=>have:=congrArg List.length hd;simp at this;omega
 | cons a r=>
  rw[hd] at k7;have:=(List.cons.inj k7).1;rw[this];rfl
abbrev Gd:=List UInt8×List UInt8×List (List UInt8)
def GdR (H:Hp) (c:List AC) (x:Gd):Prop:=∃ u,c=[.o (.str x.1),.o (.str x.2.1),u]∧SlS H u x.2.2
theorem GdR.gr {H H':Hp} {c:List AC} {x:Gd} (h:GdR H c x) (hg:Gr H H'):GdR H' c x:=let ⟨u,h1,h2⟩:=h;⟨u,h1,h2.gr hg⟩
def SlG (H:Hp) (v:AC) (gs:List Gd):Prop:=SlR GdR 3 H v gs
theorem SlG.gr {H H':Hp} {v:AC} {ls:List Gd} (h:SlG H v ls) (hg:Gr H H'):SlG H' v ls:=SlR.dp h hg.nx (fun i hi=>hg.get i hi zB2) fun _ _ h=>h.gr hg
theorem SlG.len {H:Hp} {v:AC} {l:List Gd} (h:SlG H v l):cG H 1 (.one v)=.val (.one (.i .i64 (l.length:Int))) H:=SlR.len h
theorem SlG.lt {H:Hp} {v:AC} {l:List Gd} (h:SlG H v l):ltV (.one v) H.nx:=SlR.lt h
structure GdAt (H:Hp) (cells:List AC) (o:Nat) (x:Gd) (u:AC):Prop where
 of:SlS H u x.2.2
 all:(cells.drop o).take 3=[.o (.str x.1),.o (.str x.2.1),u]
 le:o+3≤cells.length
 le1:o+1≤cells.length
 le2:o+1+1≤cells.length
 le3:o+2+1≤cells.length
 f1:(cells.drop o).headD (.b false)=.o (.str x.1)
 f2:(cells.drop (o+1)).headD (.b false)=.o (.str x.2.1)
 f3:(cells.drop (o+2)).headD (.b false)=u
theorem WI {cells:List AC} {o:Nat} {a b c:AC} (h:(cells.drop o).take 3=[a,b,c]):(cells.drop o).headD (.b false)=a∧(cells.drop (o+1)).headD (.b false)=b∧(cells.drop (o+2)).headD (.b false)=c:=by
 rw[←List.drop_drop,←List.drop_drop];cases hd:cells.drop o with
 | nil=>rw[hd] at h;cases h
 | cons x r=>
  rw[hd] at h;cases r with
  | nil=>cases h
  | cons y r=>
   cases r with
   | nil=>cases h
   | cons z r=>cases h;exact ⟨rfl,rfl,rfl⟩
theorem SlG.open {H:Hp} {v:AC} {l:List Gd} (h:SlG H v l) (hn:0<l.length):∃ id g off cells,v=.o (.sl id g off l.length 3)∧id<H.nx∧rowOf (H.get id) g=some cells ∧
  ∀ (i:Nat) (x:Gd),l[i]?=some x→∃ u,GdAt H cells (off+i*3) x u:=by
 obtain ⟨id,g,off,cells,e1,hid,hg,O0⟩:=SlR.open h hn;refine ⟨id,g,off,cells,e1,hid,hg,fun i x hx=>?_⟩;obtain ⟨hle,c,hc,R0,u,rfl,hu⟩:=O0 i x hx;obtain ⟨a,b,c⟩:=WI hc;exact ⟨u,hu,hc,hle,by omega,by omega,by omega,a,b,c⟩
theorem TF {α β:Type} {R:β→α→Prop}:∀ {cs:List β} {xs:List α} (n:Nat),Al R cs xs→Al R (cs.take n) (xs.take n)
 | _,_,0,_=>trivial
 | [],[],_+1,_=>trivial
 | _::_,_::_,n+1,h=>⟨h.1,TF n h.2⟩
 | [],_::_,_+1,h=>h.elim
 | _::_,[],_+1,h=>h.elim
theorem vr {sz:Nat}:∀ {css:List (List AC)} (n:Nat),(∀ c∈css,c.length=sz)→(css.take n).flatMap id=(css.flatMap id).take (n*sz)
 | [],n,_=>by simp
 | c::css,0,_=>by simp
 | c::css,n+1,h=>by
  have hc:c.length=sz:=h c (List.mem_cons_self ..);rw[List.take_succ_cons,List.flatMap_cons,List.flatMap_cons,vr n fun x hx=>h x (List.mem_cons_of_mem _ hx),Nat.succ_mul];show c++_=(c++css.flatMap id).take (n*sz+sz);have:n*sz+sz - sz=n*sz:=by omega
  rw[List.take_append,hc,this,List.take_of_length_le (l:=c) (by omega)]
theorem SlR.take {α:Type} {R:Hp→List AC→α→Prop} {sz:Nat} {H:Hp} {id g off:Nat} {l:List α} (h:SlR R sz H (.o (.sl id g off l.length sz)) l) {n:Nat} (hn:n≤l.length):SlR R sz H (.o (.sl id g off n sz)) (l.take n):=by
 obtain ⟨css,h1,h2⟩:=h;have hl:(l.take n).length=n:=by rw[List.length_take];omega
 have R0:css.length=l.length:=h2.len;have hcn:(css.take n).length=n:=by rw[List.length_take];omega
 refine ⟨css.take n,⟨?_,?_⟩,TF n h2⟩
 ·rw[kH fun c hc=>h2.lens c (List.mem_of_mem_take hc),hcn,hl]
 rcases h1.2 with ⟨e,h0⟩|⟨id',g',off',e,hid,hr⟩
 ·cases e
 cases e
 right;refine ⟨id,g,off,by rw[hl],hid,?_⟩;rw[hl,vr n h2.lens];have:=hr.part 0 (n*sz) (by have:=Nat.mul_le_mul_right sz hn;omega);rwa [List.drop_zero,Nat.add_zero] at this
def dO:Nat→List Gd→List UInt8→Int
 | _,[],_=>-1
 | n,x::l,s=>if x.1=s then (n:Int) else dO (n+1) l s
theorem Fy (H:Hp) (bn:Nat) (s:List UInt8) (c:AC) (d:AC) (e:List UInt8) (hb:bn<H.nx) (hg:H.get bn=some (.arr [.o (.str s)] 9 0 0)):
  Con E2 139 [.agg [.o (.str e),c,d],.one (.o (.ptr bn 0 0 1))] H (fun _=>False) fun r _=>r=.one (.b (e==s)):=by
 refine Con.of rfl fun lg=>?_;have hb:bn<(⟨H.t,H.nx,lg⟩:Hp).nx:=hb;have hg:(⟨H.t,H.nx,lg⟩:Hp).get bn=some (.arr [.o (.str s)] 9 0 0):=hg;generalize (⟨H.t,H.nx,lg⟩:Hp)=H at hb hg ⊢;refine C1.body (E:=E2) (nt:=8) (res:=[.tmp 3]) Tryz.func139 rfl rfl rfl rfl rfl fun tm A0=>?_;have h0:=A0 0 _ rfl;have h1:=A0 1 _ rfl;clear A0;repeat' first|refine R1.ret ?_|refine R1.exit ?_|refine R1.skip ?_|refine R1.mJ ?_|refine R1.iU ?_|refine R1.aA ?_|refine R1.bg ?_|refine R1.fD ?_|((first|refine R1.xA fun K hK=>?_|refine R1.oy fun K hK=>?_|refine R1.Br (by kernel_rfl) fun K hK=>?_|refine R1.xG (by kernel_rfl) fun K hK=>?_);simp only[qB,aq,Nat.reduceLT,Nat.reduceEqDiff,Nat.reduceLeDiff,reduceIte,Nat.reduceAdd,Nat.reduceSub,Nat.reduceMul,Int.reduceLT,Int.reduceLE,Int.reduceBEq,ae,h0,h1,kG,aQ,hg,Nat.lt_succ_of_lt hb,aZ hb,hb];refine hK _ _ ?_;clear hK K)
 exact ⟨_,_,ai (.b (e==s)) (.inr rfl) rfl (by simp only[aa,Nat.reduceEqDiff,reduceIte,cM]),(Fr.refl _).new _,fun _=>rfl⟩
theorem Eo (H:Hp) (v:AC) (gs:List Gd) (bn:Nat) (s:List UInt8) (hv:SlG H v gs) (hb:bn<H.nx) (hg:H.get bn=some (.arr [.o (.str s)] 9 0 0)) (hL:gs.length≤1000000):
  Con E2 138 [.one v,.one (.o (.clo 139 [(bn,0,0,1)]))] H (fun _=>False) fun r _=>r=.one (.i .i64 (dO 0 gs s)):=by
 refine Con.of rfl fun lg=>?_;have hb:bn<(⟨H.t,H.nx,lg⟩:Hp).nx:=hb;have hg:(⟨H.t,H.nx,lg⟩:Hp).get bn=some (.arr [.o (.str s)] 9 0 0):=hg;have hv:SlG ⟨H.t,H.nx,lg⟩ v gs:=hv;generalize (⟨H.t,H.nx,lg⟩:Hp)=H at hb hg hv ⊢;refine C1.body (E:=E2) (nt:=19) (res:=[.tmp 4]) Tryz.func138 rfl rfl rfl rfl rfl fun tm A0=>?_;have h0:=A0 0 _ rfl;have h1:=A0 1 _ rfl;clear A0;generalize E0:dO 0 gs s=r0;refine qW (qA ae (qA h0 (qA h1 (qA kT (qA hv.len hv.lt))))) ?_;refine R1.aU fun K k1 k2 k3 k4=>?_;refine R1.loop (fun k A H1=>∃ i:Nat,k=gs.length - i∧i≤gs.length∧Gr H H1∧dO i (gs.drop i) s=r0∧slot A.tm 0=.one v∧slot A.tm 1=.one (.o (.clo 139 [(bn,0,0,1)]))∧slot A.tm 7=.one (.i .i64 (gs.length:Int))∧slot A.tm 8=.one (.i .i64 (i:Int))∧A.nt=19∧A.dfr=[]) ?_ gs.length
  ⟨0,rfl,Nat.zero_le _,Fr.refl _,E0,?_⟩
 ·clear h0 h1 tm;rintro k A H1 ⟨i,rfl,hi,g1,hr,t0,t1,t7,t8,B0,C0⟩;have D2:=hv.gr g1;have C5:H1.get bn=some (.arr [.o (.str s)] 9 0 0):=by rw[g1.get _ hb zB2];exact hg
  have hb1:bn<H1.nx:=zA0 hb g1.nx;refine qW (qA ae (qA t7 (qA t8 B0))) ?_;refine qE fun Kx Ky hx hy=>?_;refine di (fun hc=>hx ?_) (fun hc=>hy ?_)
  ·clear hx hy Kx Ky;have D0:i<gs.length:=by omega
   obtain ⟨id,g,off,cells,rfl,hid,T0,O0⟩:=D2.open (by omega);have ex:gs[i]?=some gs[i]:=zB4 D0;have Z0:gs.drop i=gs[i]::gs.drop (i+1):=List.drop_eq_getElem_cons D0;generalize gs[i]=x at ex Z0;obtain ⟨u,V0⟩:=O0 i x ex;have J1:=zC0 i (by omega);rw[Z0,dO] at hr;refine qV ?_;refine R1.aU fun K2 q1 q2 q3 q4=>?_;refine qW (qA ae (qA t8 B0)) ?_;refine qG (qA ae (qA t0 (qA t1 (qA B0 (qA dT (qA qz (qA (ixC D0) (qA hid (qA T0 (qA V0.all (qA V0.le Jh))))))))))) fun K hK=>?_;refine WE.con (Fy H1 bn s _ _ x.1 hb1 C5) fun w H2 g2 hw=>?_;subst hw;refine qS (qA ae B0) ?_;refine hK _ _ ?_;clear hK K;have g2':=g1.gr g2;by_cases m6:x.1=s
   ·rw[zB0 m6] at hr;refine qE fun Kx Ky hx hy=>?_;rw[m6,beq_self_eq_true];refine hx ?_;clear hx hy Kx Ky;refine qW B0 ?_;exact q4 _ _ (k4 _ _ ⟨_,_,ai (.i .i64 (i:Int)) (.inr rfl) (qd C0) qp,g2',fun _=>by rw[←hr]⟩)
   rw[zB1 m6] at hr;refine qE fun Kx Ky hx hy=>?_;rw[zB5 m6];refine hy ?_;clear hx hy Kx Ky;refine qW B0 ?_;refine q1 _ _ ?_;refine qW (qA B0 (qA t8 J1)) ?_;refine ⟨gs.length - (i+1),by omega,i+1,rfl,D0,g2',hr,?_,?_,?_,?_,?_,?_⟩
   ·simp only[aa,Nat.reduceEqDiff,reduceIte,t0]
   ·simp only[aa,Nat.reduceEqDiff,reduceIte,t1]
   ·simp only[aa,Nat.reduceEqDiff,reduceIte,t7]
   ·simp only[aa,Nat.reduceEqDiff,reduceIte]
   ·simp only[aE,B0]
   simp only[ak,C0]
  clear hx hy Kx Ky;have E3:i=gs.length:=by omega
  rw[E3,List.drop_length,dO] at hr;refine qW B0 ?_;refine k2 _ _ ?_;refine qW B0 ?_;exact ⟨_,_,ai (.i .i64 (-1)) (.inr rfl) (qd C0) qp,g1,fun _=>by rw[←hr]⟩
 simp only[aa,Nat.reduceEqDiff,reduceIte,aE,ak,h0,h1,and_self,true_and];exact ⟨rfl,trivial⟩
theorem pC (H:Hp) (v:AC) (gs:List Gd) (s:List UInt8) (hv:SlG H v gs) (hL:gs.length≤1000000):
  Con E2 77 [.one v,.one (.o (.str s))] H (fun _=>False) fun r _=>r=.one (.i .i64 (dO 0 gs s)):=by
 refine Con.of rfl fun lg=>?_;have hv:SlG ⟨H.t,H.nx,lg⟩ v gs:=hv;generalize (⟨H.t,H.nx,lg⟩:Hp)=H at hv ⊢;refine C1.body (E:=E2) (nt:=8) (res:=[.tmp 4]) Tryz.func77 rfl rfl rfl rfl rfl fun tm A0=>?_;have h0:=A0 0 _ rfl;have h1:=A0 1 _ rfl;clear A0;refine qW (qA ae (qA h0 h1)) ?_;refine qG (qA ae (qA h0 Jt)) fun K hK=>?_;refine WE.con (Eo _ v gs H.nx s (hv.gr ((Fr.refl _).new _)) (zA6 _) (aG rfl) hL) fun w H2 g2 hw=>?_;subst hw;refine qS ae ?_;refine hK _ _ ?_;clear hK K;refine qV ?_;exact ⟨_,_,ai (.i .i64 (dO 0 gs s)) (.inr rfl) rfl qp,((Fr.refl _).new _).gr g2,fun _=>rfl⟩
theorem Ix:al Tryz.prog 137=true:=by kernel_rfl
theorem kY:∀ (n:Nat) (l:List Gd) (s:List UInt8),dO n l s=-1∨∃ k y,l[k]?=some y∧dO n l s=((n+k:Nat):Int)
 | _,[],_=>.inl rfl
 | n,x::l,s=>by
  unfold dO;by_cases h:x.1=s
  ·rw[zB0 h];exact .inr ⟨0,x,rfl,rfl⟩
  rw[zB1 h];rcases kY (n+1) l s with h|⟨k,y,h1,h2⟩
  ·exact .inl h
  exact .inr ⟨k+1,y,h1,by rw[h2];congr 1;omega⟩
def gOK (bf:List Gd) (x:Gd) (i:Nat) (s:List UInt8):Bool:=
 match bf[(dO 0 bf s).toNat]? with
 | some y=>!decide (dO 0 bf s<0)&&(lEq y.2.1 x.2.1&&(!decide (0<(y.2.2.length:Int))&&(!decide (0<(i:Int))||aW (x.2.2.getD (i - 1) []) s)))
 | none=>false
def yt (bf:List Gd) (x:Gd):Bool:=(List.range x.2.2.length).all fun i=>gOK bf x i (x.2.2.getD i [])
theorem uo {bf:List Gd} {x:Gd} {i:Nat} {s:List UInt8} (hx:x.2.2[i]?=some s) (h:gOK bf x i s=false):yt bf x=false:=by
 have D0:i<x.2.2.length:=(List.getElem?_eq_some_iff.1 hx).1;exact List.all_eq_false.2 ⟨i,List.mem_range.2 D0,by rw[List.getD_eq_getElem?_getD,hx];show ¬gOK bf x i s=true;rw[h];decide⟩
theorem Fz (H:Hp) (v:AC) (bf:List Gd) (x:Gd) (u:AC) (hv:SlG H v bf) (hu:SlS H u x.2.2) (hL:bf.length≤1000000) (hLx:x.2.2.length≤4611686018427387904):
  Con E2 137 [.one v,.agg [.o (.str x.1),.o (.str x.2.1),u]] H (fun _=>False) fun r _=>r=.one (.b (yt bf x)):=by
 refine Con.of rfl fun lg=>?_;have hv:SlG ⟨H.t,H.nx,lg⟩ v bf:=hv;have hu:SlS ⟨H.t,H.nx,lg⟩ u x.2.2:=hu;generalize (⟨H.t,H.nx,lg⟩:Hp)=H at hv hu ⊢;refine C1.body (E:=E2) (nt:=55) (res:=[.tmp 4]) Tryz.func137 rfl rfl rfl rfl rfl fun tm A0=>?_;have h0:=A0 0 _ rfl;have h1:=A0 1 _ rfl;clear A0;refine qG (qA ae h1) fun K hK=>?_;refine hK _ _ ?_;clear hK K;refine R1.gen (fun A1 H1=>Gr H H1∧H.nx<H1.nx∧H1.get H.nx=some (.arr [.o (.str x.1),.o (.str x.2.1),u] 104 0 0)∧slot A1.tm 0=.one v∧slot A1.tm 3=.one (.o (.ptr H.nx 0 0 3))∧A1.nt=55∧A1.dfr=[])
  ⟨(Fr.refl _).new _,?_⟩ ?_
 ·exact qZ h0
 rintro A1 H1 ⟨g1,lb,rb,t0,t3,B0,C0⟩;clear h0 h1 tm;have D2:=hv.gr g1;have G2:=hu.gr g1;have fin:∀ (A:ab) (H3:Hp) (b:Bool),(ax.ret=.normal∨ax.ret=.ret)→slot A.tm 4=.one (.b b)→A.dfr=[]→Gr H H3→b=yt bf x→∃ w H4,aC E2 [.tmp 4] (.ret,A,H3)=.ok [(w,H4)]∧Gr H H4∧∀ _:List Nat,w=.one (.b (yt bf x)):=fun A H3 b _ h1 h2 h3 h4=>⟨_,H3,ai (.b b) (.inr rfl) h2 h1,h3,fun _=>by rw[h4]⟩;refine qW (qA ae (qA t3 (qA B0 (qA rb (qA lb (qA eL (qA iD (qA iP (qA G2.len G2.lt))))))))) ?_;refine R1.aU fun K k1 k2 k3 k4=>?_;refine R1.loop (fun k A H2=>∃ i:Nat,k=x.2.2.length - i∧i≤x.2.2.length∧Gr H1 H2∧(∀ j,j<i→gOK bf x j (x.2.2.getD j [])=true)∧slot A.tm 0=.one v∧slot A.tm 3=.one (.o (.ptr H.nx 0 0 3))∧slot A.tm 9=.one u∧slot A.tm 10=.one (.i .i64 (x.2.2.length:Int))∧slot A.tm 11=.one (.i .i64 (i:Int))∧A.nt=55∧A.dfr=[]) ?_ x.2.2.length
  ⟨0,rfl,Nat.zero_le _,Fr.refl _,fun j hj=>absurd hj (Nat.not_lt_zero j),?_⟩
 ·clear t0 t3 B0 C0 A1;rintro k A H2 ⟨i,rfl,hi,g2,F1,t0,t3,t9,t10,t11,B0,C0⟩;have O3:=G2.gr g2;have N2:=D2.gr g2;refine qW (qA ae (qA t10 (qA t11 B0))) ?_;refine qE fun Kx Ky hx hy=>?_;refine di (fun hc=>hx ?_) (fun hc=>hy ?_)
  ·clear hx hy Kx Ky;have D0:i<x.2.2.length:=by omega
   obtain ⟨id,g,off,cells,rfl,hid,T0,O0⟩:=O3.open (by omega);have ew:x.2.2[i]?=some x.2.2[i]:=zB4 D0;have W7:x.2.2.getD i []=x.2.2[i]:=by rw[List.getD_eq_getElem?_getD,ew];rfl
   generalize x.2.2[i]=s at ew W7;obtain ⟨e1,e2⟩:=O0 i s ew;have J1:=zC0 i (by omega);refine qV ?_;refine R1.aU fun K2 q1 q2 q3 q4=>?_;refine qW (qA ae (qA t9 (qA t11 (qA B0 (qA iJ (qA aQ (qA (ixC D0) (qA hid (qA T0 (qA e1 e2)))))))))) ?_;refine qG (qA ae (qA t0 (qA B0 ss))) fun K hK=>?_;refine WE.con (pC H2 v bf s N2 hL) fun w H3 g3 hw=>?_;subst hw;refine qS (qA ae B0) ?_;refine hK _ _ ?_;clear hK K;have g23:=g2.gr g3;have g3':=g1.gr g23;have R7:=G2.gr g23;have F6:=D2.gr g23;have rb:H3.get H.nx=some (.arr [.o (.str x.1),.o (.str x.2.1),.o (.sl id g off x.2.2.length 1)] 104 0 0):=by rw[g23.get _ lb zB2];exact rb
   have lb:H.nx<H3.nx:=zA0 lb g23.nx;have z8:id<H3.nx:=zA0 hid g3.nx;have V':rowOf (H3.get id) g=some cells:=by rw[g3.get _ hid zB2];exact T0
   refine R1.Jj (fun A4=>slot A4.tm 0=.one v∧slot A4.tm 3=.one (.o (.ptr H.nx 0 0 3))∧slot A4.tm 5=.one (.i .i64 (i:Int))∧slot A4.tm 6=.one (.o (.str s))∧slot A4.tm 7=.one (.i .i64 (dO 0 bf s))∧slot A4.tm 9=.one (.o (.sl id g off x.2.2.length 1))∧slot A4.tm 10=.one (.i .i64 (x.2.2.length:Int))∧slot A4.tm 11=.one (.i .i64 (i:Int))∧A4.nt=55∧A4.dfr=[])
    ⟨by simp only[aa,Nat.reduceEqDiff,reduceIte,t0],by simp only[aa,Nat.reduceEqDiff,reduceIte,t3],by simp only[aa,Nat.reduceEqDiff,reduceIte],by simp only[aa,Nat.reduceEqDiff,reduceIte],by simp only[aa,Nat.reduceEqDiff,reduceIte],by simp only[aa,Nat.reduceEqDiff,reduceIte,t9],by simp only[aa,Nat.reduceEqDiff,reduceIte,t10],by simp only[aa,Nat.reduceEqDiff,reduceIte,t11],by simp only[aE,B0],by simp only[ak,C0]⟩ ?_
   clear t0 t3 t9 t10 t11 B0 C0 A;rintro A ⟨t0,t3,t5,t6,t7,t9,t10,t11,B0,C0⟩;rcases kY 0 bf s with hm|⟨k,y,hy0,hk⟩
   ·have c1:(dO 0 bf s<0)=True:=eq_true (by omega);have M8:gOK bf x i s=false:=by
     unfold gOK;split
     ·rw[decide_eq_true (by omega:dO 0 bf s<0)];rfl
     rfl
    refine qG (qA ae (qA t0 (qA t3 (qA t5 (qA t6 (qA t7 (qA B0 (qA rb (qA lb (qA dT (qA iJ (qA eE (qA eL (qA aQ (qA iD (qA iP c1)))))))))))))))) fun K hK=>?_;refine hK _ _ ?_;clear hK K;refine qY ?_;refine qW B0 ?_;exact q4 _ _ (k4 _ _ (fin _ _ false (.inr rfl) qp (qd C0) g3' (uo ew M8).symm))
   rw[Nat.zero_add] at hk;have G6:k<bf.length:=(List.getElem?_eq_some_iff.1 hy0).1;have c1:(dO 0 bf s<0)=False:=eq_false (by omega);have Q8:gOK bf x i s=(lEq y.2.1 x.2.1&&(!decide (0<(y.2.2.length:Int))&&(!decide (0<(i:Int))||aW (x.2.2.getD (i - 1) []) s))):=by
    unfold gOK;rw[hk,Int.toNat_natCast,hy0,decide_eq_false (by omega:¬(k:Int)<0)];rfl
   obtain ⟨id',g',off',cells',rfl,L2,A8,M4⟩:=F6.open (by omega);obtain ⟨uy,C2⟩:=M4 k y hy0;rw[hk] at t7 c1;cases c2:lEq y.2.1 x.2.1 with
   | false=>
    refine qG (qA ae (qA t0 (qA t3 (qA t5 (qA t6 (qA t7 (qA B0 (qA rb (qA lb (qA dT (qA iJ (qA eE (qA eL (qA aQ (qA iD (qA iP (qA c1 (qA c2 (qA (ixC G6) (qA L2 (qA A8 (qA C2.f2 C2.le2)))))))))))))))))))))) fun K hK=>?_;refine hK _ _ ?_;clear hK K;refine qY ?_;refine qW B0 ?_;exact q4 _ _ (k4 _ _ (fin _ _ false (.inr rfl) qp (qd C0) g3' (uo ew (by rw[Q8,c2];rfl)).symm))
   | true=>
    by_cases h3:0<(y.2.2.length:Int)
    ·have c3:(0<(y.2.2.length:Int))=True:=eq_true h3;refine qG (qA ae (qA t0 (qA t3 (qA t5 (qA t6 (qA t7 (qA B0 (qA rb (qA lb (qA dT (qA iJ (qA eE (qA eL (qA aQ (qA iD (qA iP (qA c1 (qA c2 (qA c3 (qA (ixC G6) (qA L2 (qA A8 (qA C2.f2 (qA C2.le2 (qA C2.f3 (qA C2.le3 (qA C2.of.len C2.of.lt))))))))))))))))))))))))))) fun K hK=>?_;refine hK _ _ ?_;clear hK K;refine qY ?_;refine qW B0 ?_;exact q4 _ _ (k4 _ _ (fin _ _ false (.inr rfl) qp (qd C0) g3' (uo ew (by rw[Q8,c2,decide_eq_true h3];rfl)).symm))
    have c3:(0<(y.2.2.length:Int))=False:=eq_false h3;have good:∀ A2:ab,slot A2.tm 0=.one (.o (.sl id' g' off' bf.length 3))→slot A2.tm 3=.one (.o (.ptr H.nx 0 0 3))→slot A2.tm 9=.one (.o (.sl id g off x.2.2.length 1))→slot A2.tm 10=.one (.i .i64 (x.2.2.length:Int))→slot A2.tm 11=.one (.i .i64 ((i+1:Nat):Int))→A2.nt=55→A2.dfr=[]→gOK bf x i s=true →
      ∃ k',k'<x.2.2.length - i∧∃ i:Nat,k'=x.2.2.length - i∧i≤x.2.2.length∧Gr H1 H3∧(∀ j,j<i→gOK bf x j (x.2.2.getD j [])=true)∧slot A2.tm 0=.one (.o (.sl id' g' off' bf.length 3))∧slot A2.tm 3=.one (.o (.ptr H.nx 0 0 3))∧slot A2.tm 9=.one (.o (.sl id g off x.2.2.length 1))∧slot A2.tm 10=.one (.i .i64 (x.2.2.length:Int))∧slot A2.tm 11=.one (.i .i64 (i:Int))∧A2.nt=55∧A2.dfr=[]:=
     fun A2 a b c d e f g h=>⟨x.2.2.length - (i+1),by omega,i+1,rfl,D0,g23,fun j hj=>by
      rcases Nat.lt_or_ge j i with h'|h'
      ·exact F1 j h'
      have:j=i:=by omega
      subst this;rw[W7];exact h,a,b,c,d,e,f,g⟩
    by_cases h4:0<(i:Int)
    ·have c4:(0<(i:Int))=True:=eq_true h4;have J9:i - 1<x.2.2.length:=by omega
     have ep:x.2.2[i - 1]?=some x.2.2[i - 1]:=zB4 J9;have C':x.2.2.getD (i - 1) []=x.2.2[i - 1]:=by rw[List.getD_eq_getElem?_getD,ep];rfl
     generalize x.2.2[i - 1]=sp at ep C';obtain ⟨f1,f2⟩:=O0 (i - 1) sp ep;have hwm:IntKind.i64.wrap ((i:Int) - 1)=((i - 1:Nat):Int):=by rw[au (by omega) (by omega)];omega
     rw[decide_eq_true h4,C'] at Q8;cases c5:aW sp s with
     | false=>
      refine qG (qA ae (qA t0 (qA t3 (qA t5 (qA t6 (qA t7 (qA B0 (qA rb (qA lb (qA dT (qA iJ (qA eE (qA eL (qA aQ (qA iD (qA iP (qA c1 (qA c2 (qA c3 (qA c4 (qA c5 (qA hwm (qA (ixC G6) (qA (ixC J9) (qA L2 (qA A8 (qA C2.f2 (qA C2.le2 (qA C2.f3 (qA C2.le3 (qA C2.of.len (qA C2.of.lt (qA z8 (qA V' (qA f1 f2))))))))))))))))))))))))))))))))))) fun K hK=>?_;refine hK _ _ ?_;clear hK K;refine qY ?_;refine qW B0 ?_;exact q4 _ _ (k4 _ _ (fin _ _ false (.inr rfl) qp (qd C0) g3' (uo ew (by rw[Q8,c2,c5,decide_eq_false h3];rfl)).symm))
     | true=>
      refine qG (qA ae (qA t0 (qA t3 (qA t5 (qA t6 (qA t7 (qA B0 (qA rb (qA lb (qA dT (qA iJ (qA eE (qA eL (qA aQ (qA iD (qA iP (qA c1 (qA c2 (qA c3 (qA c4 (qA c5 (qA hwm (qA (ixC G6) (qA (ixC J9) (qA L2 (qA A8 (qA C2.f2 (qA C2.le2 (qA C2.f3 (qA C2.le3 (qA C2.of.len (qA C2.of.lt (qA z8 (qA V' (qA f1 f2))))))))))))))))))))))))))))))))))) fun K hK=>?_;refine hK _ _ ?_;clear hK K;refine qY ?_;refine qW B0 ?_;refine q1 _ _ ?_;refine qW (qA B0 (qA t11 J1)) ?_;refine good _ ?_ ?_ ?_ ?_ ?_ ?_ ?_ (by rw[Q8,c2,c5,decide_eq_false h3];rfl);all_goals simp only[aa,aE,ak,Nat.reduceEqDiff,reduceIte,t0,t3,t9,t10,B0,C0]
    have c4:(0<(i:Int))=False:=eq_false h4;rw[decide_eq_false h4] at Q8;refine qG (qA ae (qA t0 (qA t3 (qA t5 (qA t6 (qA t7 (qA B0 (qA rb (qA lb (qA dT (qA iJ (qA eE (qA eL (qA aQ (qA iD (qA iP (qA c1 (qA c2 (qA c3 (qA c4 (qA (ixC G6) (qA L2 (qA A8 (qA C2.f2 (qA C2.le2 (qA C2.f3 (qA C2.le3 (qA C2.of.len C2.of.lt)))))))))))))))))))))))))))) fun K hK=>?_;refine hK _ _ ?_;clear hK K;refine qY ?_;refine qW B0 ?_;refine q1 _ _ ?_;refine qW (qA B0 (qA t11 J1)) ?_;refine good _ ?_ ?_ ?_ ?_ ?_ ?_ ?_ (by rw[Q8,c2,decide_eq_false h3];rfl);all_goals simp only[aa,aE,ak,Nat.reduceEqDiff,reduceIte,t0,t3,t9,t10,B0,C0]
  clear hx hy Kx Ky;have E3:i=x.2.2.length:=by omega
  refine qW B0 ?_;refine k2 _ _ ?_;refine qW B0 ?_;refine fin _ _ true (.inr rfl) qp (qd C0) (g1.gr g2) ?_;exact (List.all_eq_true.2 fun j hj=>F1 j (by have:=List.mem_range.1 hj;omega)).symm
 simp only[aa,Nat.reduceEqDiff,reduceIte,aE,ak,t0,t3,B0,C0,and_self,true_and];exact ⟨rfl,trivial⟩
theorem xr:al Tryz.prog 76=true:=by kernel_rfl
def goG (ls:List Lad):List Gd→List Gd→Int
 | _,[]=>0
 | acc,x::gs=>if nmB x.1=false then 50 else if 0≤dO 0 acc x.1 then 50 else if kf (some ls) x.2.1≠0 then 4 else if yt acc x=false then 50 else goG ls (acc++[x]) gs
def mF:Option (List Lad)→List Gd→Int
 | none,_=>1
 | some ls,gs=>if (32:Int)<gs.length then 3 else goG ls [] gs
theorem vW (H:Hp) (p v:AC) (o:Option (List Lad)) (gs:List Gd) (hp:cQ H p o) (hL:∀ ls,o=some ls→∀ x∈ls,x.2.length≤1000000) (hv:SlG H v gs) (hB:∀ x∈gs,x.2.2.length≤4611686018427387904):
  Con E2 76 [.one p,.one v] H (fun _=>False) fun r _=>r=.one (.i .i64 (mF o gs)):=by
 refine Con.of rfl fun lg=>?_;have hp:cQ ⟨H.t,H.nx,lg⟩ p o:=cQ.same (H:=H) rfl rfl hp;have hv:SlG ⟨H.t,H.nx,lg⟩ v gs:=hv;generalize (⟨H.t,H.nx,lg⟩:Hp)=H at hp hv ⊢;refine C1.body (E:=E2) (nt:=50) (res:=[.tmp 4]) Tryz.func76 rfl rfl rfl rfl rfl fun tm A0=>?_;have h0:=A0 0 _ rfl;have h1:=A0 1 _ rfl;clear A0;have fin:∀ (e:Int) (A:ab) (H3:Hp),slot A.tm 4=.one (.i .i64 e)→A.dfr=[]→Gr H H3→e=mF o gs→∃ w H4,aC E2 [.tmp 4] (.ret,A,H3)=.ok [(w,H4)]∧Gr H H4∧∀ _:List Nat,w=.one (.i .i64 (mF o gs)):=fun e A H3 h1 h2 h3 h4=>⟨_,H3,ai (.i .i64 e) (.inr rfl) h2 h1,h3,fun _=>by rw[h4]⟩;refine qV ?_;refine qG (qA ae (qA h0 NI)) fun K hK=>?_;refine WE.con (Jx H p o hp hL) fun w H1 g1 hw=>?_;subst hw;refine qS ae ?_;refine hK _ _ ?_;clear hK K;have U5:=hp.gr g1;have D2:=hv.gr g1;cases o with
 | none=>
  refine qY ?_;refine qV ?_;exact fin 1 _ _ qp rfl g1 rfl
 | some ls=>
  refine qY ?_;by_cases U8:(32:Int)<gs.length
  ·have c32:((32:Int)<gs.length)=True:=eq_true U8;refine qW (qA ae (qA h1 (qA kT (qA D2.len (qA D2.lt c32))))) ?_;refine qY ?_;refine qV ?_;exact fin 3 _ _ qp rfl g1 (zB0 U8).symm
  have c32:((32:Int)<gs.length)=False:=eq_false U8;have w_:mF (some ls) gs=goG ls [] gs:=zB1 U8;generalize E0:goG ls [] gs=r0 at w_;have hL:=hL ls rfl;refine qW (qA ae (qA h1 (qA kT (qA D2.len (qA D2.lt c32))))) ?_;refine qY ?_;refine qW (qA ae (qA h1 (qA kT (qA D2.len D2.lt)))) ?_;refine R1.aU fun K k1 k2 k3 k4=>?_;refine R1.loop (fun k A H2=>∃ i:Nat,k=gs.length - i∧i≤gs.length∧Gr H1 H2∧goG ls (gs.take i) (gs.drop i)=r0∧slot A.tm 0=.one p∧slot A.tm 1=.one v∧slot A.tm 14=.one v∧slot A.tm 15=.one (.i .i64 (gs.length:Int))∧slot A.tm 16=.one (.i .i64 (i:Int))∧A.nt=50∧A.dfr=[]) ?_ gs.length
   ⟨0,rfl,Nat.zero_le _,Fr.refl _,E0,?_⟩
  ·clear h0 h1 tm;rintro k A H2 ⟨i,rfl,hi,g2,hr,t0,t1,t14,t15,t16,B0,C0⟩;have N2:=D2.gr g2;refine qW (qA ae (qA t15 (qA t16 B0))) ?_;refine qE fun Kx Ky hx hy=>?_;refine di (fun hc=>hx ?_) (fun hc=>hy ?_)
   ·clear hx hy Kx Ky;have D0:i<gs.length:=by omega
    obtain ⟨id,g,off,cells,rfl,hid,T0,O0⟩:=N2.open (by omega);have ex:gs[i]?=some gs[i]:=zB4 D0;have Z0:gs.drop i=gs[i]::gs.drop (i+1):=List.drop_eq_getElem_cons D0;have U2:gs.take (i+1)=gs.take i++[gs[i]]:=List.take_succ_eq_append_getElem D0;have N0:gs[i]∈gs:=List.getElem_mem D0;generalize gs[i]=x at ex Z0 U2 N0;obtain ⟨u,V0⟩:=O0 i x ex;have J1:=zC0 i (by omega);have htl:(gs.take i).length≤1000000:=by rw[List.length_take];omega
    rw[Z0,goG] at hr;refine qV ?_;refine R1.aU fun K2 q1 q2 q3 q4=>?_;refine qG (qA ae (qA t14 (qA t16 (qA B0 (qA dT (qA qz (qA Ck (qA Bz (qA (ixC D0) (qA hid (qA T0 (qA V0.all V0.le)))))))))))) fun K hK=>?_;refine hK _ _ ?_;clear hK K;refine R1.gen (fun A3 H3=>Gr H2 H3∧H2.nx<H3.nx∧H3.get H2.nx=some (.arr [.o (.str x.1),.o (.str x.2.1),u] 104 0 0)∧slot A3.tm 0=.one p∧slot A3.tm 1=.one (.o (.sl id g off gs.length 3))∧slot A3.tm 5=.one (.i .i64 (i:Int))∧slot A3.tm 6=.one (.o (.ptr H2.nx 0 0 3))∧slot A3.tm 14=.one (.o (.sl id g off gs.length 3))∧slot A3.tm 15=.one (.i .i64 (gs.length:Int))∧slot A3.tm 16=.one (.i .i64 (i:Int))∧A3.nt=50∧A3.dfr=[])
     ⟨((Fr.refl _).new _).mod _ (.inl (zA1 _)),?_⟩ ?_
    ·exact qZ (qA t0 (qA t1 (qA t14 (qA t15 (qA t16 (qA B0 C0))))))
    clear t0 t1 t14 t15 t16 B0 C0 A;rintro A H3 ⟨g3,n3,rx,t0,t1,t5,t6,t14,t15,t16,B0,C0⟩;have g3':=g1.gr (g2.gr g3);refine qG (qA ae (qA t6 (qA B0 (qA rx (qA n3 (qA kG (qA aQ eG))))))) fun K hK=>?_;refine WE.fE (mI x.1) fun H4 g4 n4 e4=>?_;have rx:H4.get H2.nx=some (.arr [.o (.str x.1),.o (.str x.2.1),u] 104 0 0):=(e4 _).trans rx;rw[←n4] at n3;have g4':=g3'.gr g4;have g24:Gr H2 H4:=g3.gr g4;cases N8:nmB x.1 with
    | false=>
     rw[zB0 N8] at hr;refine qS (qA ae B0) ?_;refine hK _ _ ?_;clear hK K;refine qY ?_;refine qW B0 ?_;exact q4 _ _ (k4 _ _ (fin 50 _ _ qp (qd C0) g4' (by rw[w_,←hr])))
    | true=>
     rw[zB1 (by rw[N8];decide)] at hr;have hv4:=(N2.gr g24);have htk4:=SlR.take hv4 (n:=i) (by omega);refine qS (qA ae (qA t1 (qA t5 (qA t6 (qA B0 (qA rx (qA n3 (qA kG (qA aQ (qA dT (qA ss (slH (Nat.le_of_lt D0))))))))))))) ?_;refine WE.con (pC H4 _ (gs.take i) x.1 htk4 htl) fun w H5 g5 hw=>?_;subst hw;have rx:H5.get H2.nx=some (.arr [.o (.str x.1),.o (.str x.2.1),u] 104 0 0):=by rw[g5.get _ n3 zB2];exact rx
     have n5:H2.nx<H5.nx:=zA0 n3 g5.nx;have g5':=g4'.gr g5;have g25:=g24.gr g5;by_cases X9:0≤dO 0 (gs.take i) x.1
     ·have cge:(0≤dO 0 (gs.take i) x.1)=True:=eq_true X9;rw[zB0 X9] at hr;refine qS (qA ae (qA B0 cge)) ?_;refine hK _ _ ?_;clear hK K;refine qY ?_;refine qW B0 ?_;exact q4 _ _ (k4 _ _ (fin 50 _ _ qp (qd C0) g5' (by rw[w_,←hr])))
     have cge:(0≤dO 0 (gs.take i) x.1)=False:=eq_false X9;rw[zB1 X9] at hr;refine qS (qA ae (qA B0 cge)) ?_;refine hK _ _ ?_;clear hK K;refine qY ?_;refine R1.bg ?_;have hp5:cQ H5 p (some ls):=U5.gr (g2.gr g25);refine qG (qA ae (qA t0 (qA t6 (qA B0 (qA rx (qA n5 (qA eE (qA aQ sG)))))))) fun K hK=>?_;refine WE.con (po H5 p (some ls) x.2.1 hp5 (fun ls' h=>by cases h;exact hL)) fun w H6 g6 ⟨c,hw,ha,R0⟩=>?_;subst hw;have g6':=g5'.gr g6;refine qS (qA ae (qA B0 (qA eS (qA jg R0)))) ?_;refine hK _ _ ?_;clear hK K;have g7:Gr H6 ((H6.new (.arr [.o (.str []),.o .nilS] 97 0 0)).mod H6.nx (.arr c 97 0 0)):=((Fr.refl _).new _).mod _ (.inl (zA1 _));have rx:((H6.new (.arr [.o (.str []),.o .nilS] 97 0 0)).mod H6.nx (.arr c 97 0 0)).get H2.nx=some (.arr [.o (.str x.1),.o (.str x.2.1),u] 104 0 0):=by
      have hlt6:H2.nx<H6.nx:=zA0 n5 g6.nx;rw[g7.get _ hlt6 zB2,g6.get _ n5 zB2];exact rx
     have n7:H2.nx<((H6.new (.arr [.o (.str []),.o .nilS] 97 0 0)).mod H6.nx (.arr c 97 0 0)).nx:=zA0 (zA0 n5 g6.nx) g7.nx;have g7':=g6'.gr g7;have g27:=(g25.gr g6).gr g7;generalize ((H6.new (.arr [.o (.str []),.o .nilS] 97 0 0)).mod H6.nx (.arr c 97 0 0))=H7 at rx n7 g7' g27 ⊢;refine qW (qA ae B0) ?_;refine qE fun Kx Ky hx hy=>?_;refine di (fun hd=>hx ?_) (fun hd=>hy ?_)
     ·clear hx hy Kx Ky;have Y0:kf (some ls) x.2.1≠0:=by simpa using hd
      rw[zB0 Y0] at hr;refine qW B0 ?_;exact q4 _ _ (k4 _ _ (fin 4 _ _ qp (qd C0) g7' (by rw[w_,←hr])))
     clear hx hy Kx Ky;have hz:kf (some ls) x.2.1=0:=by simpa using hd
     rw[zB1 (fun h=>h hz)] at hr;have hv7:=N2.gr g27;have hu7:SlS H7 u x.2.2:=V0.of.gr g27;have htk7:=SlR.take hv7 (n:=i) (by omega);refine R1.bg ?_;refine qG (qA ae (qA t1 (qA t5 (qA t6 (qA B0 (qA rx (qA n7 (qA qz (qA dT (qA (slH (Nat.le_of_lt D0)) Ix)))))))))) fun K hK=>?_;refine WE.con (Fz H7 _ (gs.take i) x u htk7 hu7 htl (hB x N0)) fun w H8 g8 hw=>?_;subst hw;have g8':=g7'.gr g8;have g28:=g27.gr g8;refine qS (qA ae B0) ?_;refine hK _ _ ?_;clear hK K;cases hgt:yt (gs.take i) x with
     | false=>
      rw[zB0 hgt] at hr;refine qY ?_;refine qW B0 ?_;exact q4 _ _ (k4 _ _ (fin 50 _ _ qp (qd C0) g8' (by rw[w_,←hr])))
     | true=>
      rw[zB1 (by rw[hgt];decide),←U2] at hr;refine qY ?_;refine qW B0 ?_;refine q1 _ _ ?_;refine qW (qA B0 (qA t16 J1)) ?_;refine ⟨gs.length - (i+1),by omega,i+1,rfl,D0,g2.gr g28,hr,?_,?_,?_,?_,?_,?_,?_⟩
      ·simp only[aa,Nat.reduceEqDiff,reduceIte,t0]
      ·simp only[aa,Nat.reduceEqDiff,reduceIte,t1]
      ·simp only[aa,Nat.reduceEqDiff,reduceIte,t14]
      ·simp only[aa,Nat.reduceEqDiff,reduceIte,t15]
      ·simp only[aa,Nat.reduceEqDiff,reduceIte]
      ·simp only[aE,B0]
      simp only[ak,C0]
   clear hx hy Kx Ky;have E3:i=gs.length:=by omega
   rw[E3,List.drop_length,goG] at hr;refine qW B0 ?_;refine k2 _ _ ?_;refine qW B0 ?_;exact fin 0 _ _ qp (qd C0) (g1.gr g2) (by rw[w_,←hr])
  simp only[aa,Nat.reduceEqDiff,reduceIte,aE,ak,h0,h1,and_self,true_and];exact ⟨rfl,trivial⟩
section
variable {st:Bool} {E:Env} {A:ab} {H:Hp} {next:ab→Hp→Prop} {d:Option Tmp} {ty:TypeId} {pos:String} {af:Array Edge} {gd:Option (Nat×Bool)}
theorem mK {t:TypeId} {x i:Operand}:SK st E ⟨d,.index t x i,ty,pos,af,gd⟩ A H next=vN next A d (iI H (mz E.P t) (ev A.tm x) (ev A.tm i) (an E.P A.tm H ⟨d,.index t x i,ty,pos,af,gd⟩)):=kr
theorem TU {s:List UInt8} {n:Nat} {b:UInt8} {k:IntKind} {alt:ad} (h:s[n]?=some b):iI H true (.one (.o (.str s))) (.one (.i k (n:Int))) alt=.val (.one (.i .u8 (b.toNat:Int))) H:=by
 show nd (VQ n s) _ _=_;rw[Mw,h];rfl
theorem WA {c:UInt8} {s:List UInt8} {k:IntKind} {alt:ad}:iI H true (.one (.o (.str (c::s)))) (.one (.i k 0)) alt=.val (.one (.i .u8 (c.toNat:Int))) H:=rfl
end
theorem uF:al Tryz.prog 80=true:=by kernel_rfl
theorem KB (c:UInt8):okB c=(decide ((c.toNat:Int)=95)||(decide (97≤(c.toNat:Int))&&decide ((c.toNat:Int)≤122))||(decide (48≤(c.toNat:Int))&&decide ((c.toNat:Int)≤57))):=by
 rw[Bool.eq_iff_iff,Bu];simp only[Bool.or_eq_true,Bool.and_eq_true,decide_eq_true_eq,or_assoc]
theorem Fe (c:UInt8) (l:List UInt8):nmB (c::l)=(decide (l.length+1≤16)&&(decide (97≤(c.toNat:Int))&&decide ((c.toNat:Int)≤122))&&(c::l).all okB):=by
 unfold nmB;have e1:decide (97≤(c.toNat:Int))=decide ((97:UInt8)≤c):=by
  rw[decide_eq_decide,UInt8.le_iff_toNat_le];show (97:Int)≤c.toNat↔97≤c.toNat;omega
 have e2:decide ((c.toNat:Int)≤122)=decide (c≤(122:UInt8)):=by
  rw[decide_eq_decide,UInt8.le_iff_toNat_le];show (c.toNat:Int)≤122↔c.toNat≤122;omega
 rw[e1,e2];simp only[List.isEmpty_cons,Bool.not_false,Bool.true_and,List.length_cons,Bool.and_assoc]
theorem tb (H:Hp) (s:List UInt8):Con E2 80 [.one (.o (.str s))] H (fun _=>False) fun v _=>v=.one (.b (nmB s)):=by
 refine Con.of rfl fun lg=>?_;generalize (⟨H.t,H.nx,lg⟩:Hp)=H;refine C1.body (E:=E2) (nt:=52) (res:=[.tmp 2]) Tryz.func80 rfl rfl rfl rfl rfl fun tm A0=>?_;have h0:=A0 0 _ rfl;clear A0;cases s with
 | nil=>
  refine qW ae ?_;repeat refine R1.aA ?_
  refine R1.oy fun K hK=>?_;simp only[qB,aq,Nat.reduceLT,Nat.reduceEqDiff,Nat.reduceLeDiff,reduceIte,Nat.reduceAdd,Nat.reduceSub,Nat.reduceMul,Int.reduceLT,Int.reduceLE,Int.reduceBEq,ae,h0,sy,mK,xh];refine hK _ _ ?_;clear hK K;refine qY ?_;refine qV ?_;exact ⟨_,_,ai (.b false) (.inr rfl) rfl qp,Fr.refl _,fun _=>rfl⟩
 | cons c l=>
  have q6:(((l.length+1:Nat):Int)<1)=False:=eq_false (by omega);refine qW ae ?_;repeat refine R1.aA ?_
  refine R1.oy fun K hK=>?_;simp only[qB,aq,Nat.reduceLT,Nat.reduceEqDiff,Nat.reduceLeDiff,reduceIte,Nat.reduceAdd,Nat.reduceSub,Nat.reduceMul,Int.reduceLT,Int.reduceLE,Int.reduceBEq,ae,h0,sy,mK,xh,WA,q6];repeat' (refine ub (fun hc=>?_) (fun hc=>?_) <;> (try simp only[Bool.not_eq_true,Bool.not_eq_false,Classical.not_not] at hc) <;> simp only[hc,qB,aq,Nat.reduceLT,Nat.reduceEqDiff,Nat.reduceLeDiff,reduceIte,Nat.reduceAdd,Nat.reduceSub,Nat.reduceMul,Int.reduceLT,Int.reduceLE,Int.reduceBEq,ae,h0,sy,mK,xh,WA,q6])
  all_goals refine hK _ _ ?_
  all_goals clear hK K
  all_goals refine qE fun Kx Ky hx hy=>?_
  all_goals first|refine hx ?_|refine hy ?_|refine di (fun hd=>hx ?_) (fun hd=>hy ?_)
  all_goals clear hx hy Kx Ky
  all_goals refine qV ?_
  all_goals first
   | (refine ⟨_,_,ai (.b false) (.inr rfl) rfl qp,Fr.refl _,fun _=>?_⟩
      have:nmB (c::l)=false:=Bool.eq_false_iff.2 fun h=>by
       rw[Fe] at h;simp only[Bool.and_eq_true,decide_eq_true_eq] at h;omega
      rw[this];done)
   | skip
  rename_i hl16
  have N8:nmB (c::l)=(c::l).all okB:=by
   rw[Fe,decide_eq_true (by omega:l.length+1≤16),decide_eq_true (by omega:97≤(c.toNat:Int)),decide_eq_true (by omega:(c.toNat:Int)≤122)];rfl
  rw[N8];clear N8 q6 hc hd;generalize hs:c::l=s at h0 ⊢;have hlen:s.length≤16:=by rw[←hs,List.length_cons];omega
  clear hl16 hs;refine R1.aU fun K k1 k2 k3 k4=>?_;refine R1.loop (fun m A1 H1=>∃ i:Nat,m=s.length - i∧i≤s.length∧H1=H∧(s.take i).all okB=true∧slot A1.tm 0=.one (.o (.str s))∧slot A1.tm 3=.one (.i .i64 (i:Int))∧A1.nt=52∧A1.dfr=[]) ?_ s.length
   ⟨0,rfl,Nat.zero_le _,rfl,rfl,?_,?_,rfl,rfl⟩
  ·clear h0 tm;rintro m A1 H1 ⟨i,rfl,hi,rfl,F1,t0,t3,B0,C0⟩;refine qW (qA ae (qA t0 (qA t3 (qA B0 sy)))) ?_;refine qE fun Kx Ky hx hy=>?_;refine di (fun hc=>hx ?_) (fun hc=>hy ?_)
   ·clear hx hy Kx Ky;have D0:i<s.length:=by omega
    have hb:s[i]?=some s[i]:=zB4 D0;have U2:s.take (i+1)=s.take i++[s[i]]:=List.take_succ_eq_append_getElem D0;have N0:s[i]∈s:=List.getElem_mem D0;generalize s[i]=b at hb U2 N0;refine R1.bg (R1.aU fun K2 q1 q2 q3 q4=>?_);repeat refine R1.aA ?_
    refine R1.oy fun K hK=>?_;simp only[qB,aq,Nat.reduceLT,Nat.reduceEqDiff,Nat.reduceLeDiff,reduceIte,Nat.reduceAdd,Nat.reduceSub,Nat.reduceMul,Int.reduceLT,Int.reduceLE,Int.reduceBEq,ae,t0,t3,B0,mK,xh,TU hb];refine hK _ _ ?_;clear hK K;refine qG (qA ae B0) fun K hK=>?_;repeat' (refine ub (fun hc=>?_) (fun hc=>?_) <;> (try simp only[Bool.not_eq_true,Bool.not_eq_false,Classical.not_not] at hc) <;> simp only[hc,qB,aq,Nat.reduceLT,Nat.reduceEqDiff,Nat.reduceLeDiff,reduceIte,Nat.reduceAdd,Nat.reduceSub,Nat.reduceMul,Int.reduceLT,Int.reduceLE,Int.reduceBEq,ae,B0])
    all_goals refine hK _ _ ?_
    all_goals clear hK K
    all_goals refine qE fun Kx Ky hx hy=>?_
    all_goals first|refine hx ?_|refine hy ?_|refine di (fun hd=>hx ?_) (fun hd=>hy ?_)
    all_goals clear hx hy Kx Ky
    all_goals (try simp only[beq_eq_false_iff_ne,ne_eq,Classical.not_not] at hd)
    all_goals refine qW (qA t3 B0) ?_
    all_goals first
     | (refine q4 _ _ (k4 _ _ ⟨_,_,ai (.b false) (.inr rfl) (qd C0) qp,Fr.refl _,fun _=>?_⟩)
        have M8:okB b=false:=Bool.eq_false_iff.2 fun h=>by
         rw[KB] at h;simp only[Bool.or_eq_true,Bool.and_eq_true,decide_eq_true_eq] at h;omega
        have:s.all okB=false:=List.all_eq_false.2 ⟨b,N0,by rw[M8];decide⟩;rw[this];done)
     | (refine q1 _ _ ?_
        have Y1:okB b=true:=by
         rw[KB];simp only[Bool.or_eq_true,Bool.and_eq_true,decide_eq_true_eq];omega
        have J1:=zC0 i (by omega);refine qW (qA t3 (qA B0 J1)) ?_;refine ⟨s.length - (i+1),by omega,i+1,rfl,D0,rfl,by rw[U2,List.all_append,F1,List.all_cons,Y1];rfl,?_,?_,?_,?_⟩
        ·simp only[aa,Nat.reduceEqDiff,reduceIte,t0]
        ·simp only[aa,Nat.reduceEqDiff,reduceIte]
        ·simp only[aE,B0]
        simp only[ak,C0])
   clear hx hy Kx Ky;have E3:i=s.length:=by omega
   refine qW B0 ?_;refine k2 _ _ ?_;refine qW B0 ?_;refine ⟨_,_,ai (.b true) (.inr rfl) (qd C0) qp,Fr.refl _,fun _=>?_⟩;rw[E3,List.take_length] at F1;rw[F1]
  all_goals simp only[aa,Nat.reduceEqDiff,reduceIte,h0]
  all_goals rfl
theorem NW:al Tryz.prog 130=true:=by kernel_rfl
theorem Nr:al Tryz.prog 131=true:=by kernel_rfl
theorem HQ:al Tryz.prog 70=true:=by kernel_rfl
def sM:Nat→List Pr→List UInt8→Int
 | _,[],_=>-1
 | n,x::l,s=>if x.1=s then (n:Int) else sM (n+1) l s
theorem JF (H:Hp) (n:List UInt8) (u:AC) (us:List Pr) (s:List UInt8) (hu:SlP H u us) (hL:us.length≤1000000):
  Con E2 130 [.agg [.o (.str n),u],.one (.o (.str s))] H (fun _=>False) fun r _=>r=.one (.i .i64 (sM 0 us s)):=by
 refine Con.of rfl fun lg=>?_;have hu:SlP ⟨H.t,H.nx,lg⟩ u us:=hu;generalize (⟨H.t,H.nx,lg⟩:Hp)=H at hu ⊢;refine C1.body (E:=E2) (nt:=22) (res:=[.tmp 4]) Tryz.func130 rfl rfl rfl rfl rfl fun tm A0=>?_;have h0:=A0 0 _ rfl;have h1:=A0 1 _ rfl;clear A0;generalize E0:sM 0 us s=r0;refine qG (qA ae h0) fun K hK=>?_;refine hK _ _ ?_;clear hK K;refine R1.gen (fun A1 H1=>Gr H H1∧H.nx<H1.nx∧H1.get H.nx=some (.arr [.o (.str n),u] 97 0 0)∧slot A1.tm 1=.one (.o (.str s))∧slot A1.tm 2=.one (.o (.ptr H.nx 0 0 2))∧A1.nt=22∧A1.dfr=[])
  ⟨(Fr.refl _).new _,?_⟩ ?_
 ·exact qZ h1
 rintro A1 H1 ⟨g1,lb,rb,t1,t2,B0,C0⟩;clear h0 h1 tm;have G2:=hu.gr g1;refine qW B0 ?_;refine R1.aU fun K k1 k2 k3 k4=>?_;refine R1.loop (fun k A H2=>∃ i:Nat,k=us.length - i∧i≤us.length∧H2=H1∧sM i (us.drop i) s=r0∧slot A.tm 1=.one (.o (.str s))∧slot A.tm 2=.one (.o (.ptr H.nx 0 0 2))∧slot A.tm 5=.one (.i .i64 (i:Int))∧A.nt=22∧A.dfr=[]) ?_ us.length
  ⟨0,rfl,Nat.zero_le _,rfl,E0,?_⟩
 ·clear t1 t2 B0 C0 A1;rintro k A H2 ⟨i,rfl,hi,rfl,hr,t1,t2,t5,B0,C0⟩;refine qW (qA ae (qA t2 (qA t5 (qA B0 (qA rb (qA lb (qA bW (qA bX (qA dt (qA G2.len G2.lt)))))))))) ?_;refine qE fun Kx Ky hx hy=>?_;refine di (fun hc=>hx ?_) (fun hc=>hy ?_)
  ·clear hx hy Kx Ky;have D0:i<us.length:=by omega
   obtain ⟨id,g,off,cells,rfl,hid,T0,O0⟩:=G2.open (by omega);have ex:us[i]?=some us[i]:=zB4 D0;have Z0:us.drop i=us[i]::us.drop (i+1):=List.drop_eq_getElem_cons D0;generalize us[i]=x at ex Z0;have V0:=O0 i x ex;have J1:=zC0 i (by omega);rw[Z0,sM] at hr;refine qV ?_;refine R1.aU fun K2 q1 q2 q3 q4=>?_;refine qG (qA ae (qA t1 (qA t2 (qA t5 (qA B0 (qA rb (qA lb (qA bW (qA bX (qA gT (qA bK (qA aQ (qA (ixC D0) (qA hid (qA T0 (qA V0.fst V0.le1)))))))))))))))) fun K hK=>?_;refine hK _ _ ?_;clear hK K;by_cases m6:x.1=s
   ·rw[zB0 m6] at hr;have ce:lEq x.1 s=true:=by rw[cM,m6,beq_self_eq_true]
    refine qX ce ?_;refine qW (qA B0 t5) ?_;exact q4 _ _ (k4 _ _ ⟨_,_,ai (.i .i64 (i:Int)) (.inr rfl) (qd C0) qp,g1,fun _=>by rw[←hr]⟩)
   rw[zB1 m6] at hr;have ce:lEq x.1 s=false:=by rw[cM];exact zB5 m6
   refine qX ce ?_;refine qW B0 ?_;refine q1 _ _ ?_;refine qW (qA B0 (qA t5 J1)) ?_;refine ⟨us.length - (i+1),by omega,i+1,rfl,D0,rfl,hr,?_,?_,?_,?_,?_⟩
   ·simp only[aa,Nat.reduceEqDiff,reduceIte,t1]
   ·simp only[aa,Nat.reduceEqDiff,reduceIte,t2]
   ·simp only[aa,Nat.reduceEqDiff,reduceIte]
   ·simp only[aE,B0]
   simp only[ak,C0]
  clear hx hy Kx Ky;have E3:i=us.length:=by omega
  rw[E3,List.drop_length,sM] at hr;refine qW B0 ?_;refine k2 _ _ ?_;refine qW B0 ?_;exact ⟨_,_,ai (.i .i64 (-1)) (.inr rfl) (qd C0) qp,g1,fun _=>by rw[←hr]⟩
 simp only[aa,Nat.reduceEqDiff,reduceIte,aE,ak,t1,t2,B0,C0,and_self,true_and];exact ⟨rfl,trivial⟩
def mG:Int→List Pr→Option (List Int)
 | _,[]=>some []
 | v,x::l=>if 1099511627776<v*x.2 then none else (mG (v*x.2) l).map (v*x.2::·)
def CK (n:Int):List AC:=[.i .i64 n]
theorem Ph (n:Int):(CK n).length=1:=rfl
def SlI (H:Hp) (v:AC) (l:List Int):Prop:=SlC H v 1 l.length (l.flatMap CK)
theorem IX (H:Hp) (n:List UInt8) (u:AC) (us:List Pr) (hu:SlP H u us) (hL:us.length≤1000000) (hf:∀ x∈us,1≤x.2∧x.2≤60):
  Con E2 131 [.agg [.o (.str n),u]] H (fun _=>False) fun r H'=>∃ c,r=.tup [(false,[c]),(false,[.b (mG 1 us).isSome])]∧SlI H' c ((mG 1 us).getD []):=by
 refine Con.of rfl fun lg=>?_;have hu:SlP ⟨H.t,H.nx,lg⟩ u us:=hu;generalize (⟨H.t,H.nx,lg⟩:Hp)=H at hu ⊢;refine C1.body (E:=E2) (nt:=29) (res:=[.tmp 2,.tmp 3]) Tryz.func131 rfl rfl rfl rfl rfl fun tm A0=>?_;have h0:=A0 0 _ rfl;clear A0;generalize E0:mG 1 us=r0;refine qG (qA ae h0) fun K hK=>?_;refine hK _ _ ?_;clear hK K;refine R1.gen (fun A1 H1=>Gr H H1∧H.nx<H1.nx∧H1.get H.nx=some (.arr [.o (.str n),u] 97 0 0)∧slot A1.tm 1=.one (.o (.ptr H.nx 0 0 2))∧A1.nt=29∧A1.dfr=[])
  ⟨(Fr.refl _).new _,?_⟩ ?_
 ·exact qU
 rintro A1 H1 ⟨g1,lb,rb,t1,B0,C0⟩;clear h0 tm;obtain ⟨zi,hzi,p8⟩:=BZ;refine qW B0 ?_;refine R1.aU fun K k1 k2 k3 k4=>?_;refine R1.loop (fun k A H2=>∃ (i:Nat) (out:List Int) (v:Int) (v4:AC) (r:Option Nat),k=us.length - i∧i≤us.length∧out.length=i∧Gr H1 H2∧1≤v∧v≤1099511627776∧(mG v (us.drop i)).map (out++·)=r0∧eU H2 v4 3 1 out.length (out.flatMap CK) r∧(∀ q,r=some q→H1.nx≤q) ∧
  slot A.tm 1=.one (.o (.ptr H.nx 0 0 2))∧slot A.tm 4=.one v4∧slot A.tm 5=.one (.i .i64 v)∧slot A.tm 6=.one (.i .i64 (i:Int))∧A.nt=29∧A.dfr=[]) ?_ us.length
  ⟨0,[],1,.o .nilS,none,rfl,Nat.zero_le _,rfl,Fr.refl _,by omega,by omega,?_,.inl ⟨rfl,rfl,rfl,rfl⟩,fun q hq=>(by cases hq),?_⟩
 ·clear t1 B0 C0 A1;rintro k A H2 ⟨i,out,v,v4,r,rfl,hi,W3,g2,D2,N2,hr,I1,B1,t1,t4,t5,t6,B0,C0⟩;have rb2:H2.get H.nx=some (.arr [.o (.str n),u] 97 0 0):=by rw[g2.get _ lb zB2];exact rb
  have lb2:H.nx<H2.nx:=zA0 lb g2.nx;have O3:=(hu.gr g1).gr g2;refine qW (qA ae (qA t1 (qA t6 (qA B0 (qA rb2 (qA lb2 (qA bW (qA bX (qA dt (qA O3.len O3.lt)))))))))) ?_;refine qE fun Kx Ky hx hy=>?_;refine di (fun hc=>hx ?_) (fun hc=>hy ?_)
  ·clear hx hy Kx Ky;have D0:i<us.length:=by omega
   obtain ⟨id,g,off,cells,rfl,hid,T0,O0⟩:=O3.open (by omega);have ex:us[i]?=some us[i]:=zB4 D0;have Z0:us.drop i=us[i]::us.drop (i+1):=List.drop_eq_getElem_cons D0;have hff:=hf us[i] (List.getElem_mem D0);generalize us[i]=x at ex Z0 hff;have V0:=O0 i x ex;have J1:=zC0 i (by omega);have Y8:1≤v*x.2:=by
    have:=Int.mul_le_mul D2 hff.1 (by omega) (by omega);omega
   have g_:v*x.2≤1099511627776*60:=Int.mul_le_mul N2 hff.2 (by omega) (by omega);have hwm:IntKind.i64.wrap (v*x.2)=v*x.2:=au (by omega) (by omega);rw[Z0,mG] at hr;refine qV ?_;refine R1.aU fun K2 q1 q2 q3 q4=>?_;refine qG (qA ae (qA t1 (qA t5 (qA t6 (qA B0 (qA rb2 (qA lb2 (qA bW (qA bX (qA gT (qA bV (qA cD (qA (ixC D0) (qA hid (qA T0 (qA V0.snd (qA V0.le2 hwm))))))))))))))))) fun K hK=>?_;refine hK _ _ ?_;clear hK K;refine qW B0 ?_;by_cases L0:1099511627776<v*x.2
   ·have cb:(1099511627776<v*x.2)=True:=eq_true L0;rw[zB0 L0] at hr;refine qX cb ?_;refine qW B0 ?_;refine q4 _ _ (k4 _ _ ⟨_,_,aM (.o .nilS) (.b false) (.inr rfl) (qd C0) qp qp,g1.gr g2,fun _=>?_⟩);rw[←hr];exact ⟨_,rfl,by simp[SlI],.inl ⟨rfl,rfl⟩⟩
   have cb:(1099511627776<v*x.2)=False:=eq_false L0;rw[zB1 L0] at hr;obtain ⟨N6,v6,H6,r6,Q1,ho6,e8,hr6⟩:=js jL BX hzi p8 (by decide) I1 [.i .i64 (v*x.2)] rfl (by omega);refine qX cb ?_;refine R1.bg ?_;refine qG (qA ae (qA t4 (qA B0 (qA jL (qA sw (qA mV (qA Q1 N6))))))) fun K hK=>?_;refine ⟨N6,?_⟩;refine hK _ _ ?_;clear hK K;refine q1 _ _ ?_;refine qW (qA B0 (qA t6 J1)) ?_;refine ⟨us.length - (i+1),by omega,i+1,out++[v*x.2],v*x.2,v6,some r6,rfl,D0,by rw[List.length_append,W3];rfl,g2.then e8 fun q hq=>.inl (B1 q hq),Y8,by omega,?_,?_,fun q hq=>?_,?_,?_,?_,?_,?_,?_⟩
   ·rw[←hr,Option.map_map];congr 1
    funext l
    simp
   ·have e2:(out++[v*x.2]).flatMap CK=out.flatMap CK++[.i .i64 (v*x.2)]:=by rw[List.flatMap_append];rfl
    rw[List.length_append,e2];exact ho6
   ·cases hq
    rcases hr6 with h|h
    ·exact B1 _ h
    exact zA2 g2.nx h
   ·simp only[aa,Nat.reduceEqDiff,reduceIte,t1]
   ·simp only[aa,Nat.reduceEqDiff,reduceIte]
   ·simp only[aa,Nat.reduceEqDiff,reduceIte]
   ·simp only[aa,Nat.reduceEqDiff,reduceIte]
   ·simp only[aE,B0]
   simp only[ak,C0]
  clear hx hy Kx Ky;have E3:i=us.length:=by omega
  rw[E3,List.drop_length,mG] at hr;refine qW B0 ?_;refine k2 _ _ ?_;refine qW (qA B0 t4) ?_;refine ⟨_,_,aM v4 (.b true) (.inr rfl) (qd C0) qp qp,g1.gr g2,fun _=>?_⟩;rw[←hr];refine ⟨_,rfl,?_⟩;have e:((Option.map (fun x=>out++x) (some [])).getD [])=out:=by simp
  rw[e];exact I1.slc
 ·rw[List.drop_zero,E0];cases r0 <;> simp
 simp only[aa,Nat.reduceEqDiff,reduceIte,aE,ak,t1,B0,C0,and_self,true_and];exact ⟨rfl,trivial⟩
def lH (us:List Pr) (i:Nat) (x:Pr):Bool:=nmB x.1&&(decide (sM 0 us x.1=(i:Int))&&(if i=0 then x.2==1 else decide (2≤x.2)&&decide (x.2≤60)))
def gq (n:List UInt8) (us:List Pr):Bool:=nmB n&&decide (1≤us.length)&&decide (us.length≤12)&&((List.range us.length).all fun i=>lH us i (us.getD i ([],0)))&&(mG 1 us).isSome
theorem kV {n:List UInt8} {us:List Pr} {i:Nat} {x:Pr} (hx:us[i]?=some x) (h:lH us i x=false):(if gq n us=true then 0 else 10)=(10:Int):=by
 have D0:i<us.length:=(List.getElem?_eq_some_iff.1 hx).1;have:((List.range us.length).all fun i=>lH us i (us.getD i ([],0)))=false:=List.all_eq_false.2 ⟨i,List.mem_range.2 D0,by rw[List.getD_eq_getElem?_getD,hx];show ¬lH us i x=true;rw[h];decide⟩;unfold gq;rw[this,Bool.and_false,Bool.false_and];rfl
theorem CJ:∀ (v:Int) (us:List Pr),(yv v us).length=us.length↔(∀ x∈us,1≤x.2∧x.2≤60)∧(mG v us).isSome=true
 | _,[]=>⟨fun _=>⟨fun x hx=>(by cases hx),rfl⟩,fun _=>rfl⟩
 | v,u::us=>by
  unfold yv mG;have ih:=CJ (v*u.2) us;by_cases h:u.2<1∨60<u.2∨1099511627776<v*u.2
  ·rw[zB0 h];refine ⟨fun h'=>(by simp at h'),fun ⟨h1,h2⟩=>?_⟩;have h3:=h1 u (List.mem_cons_self ..);have h4:1099511627776<v*u.2:=by omega
   rw[zB0 h4] at h2;cases h2
  rw[zB1 h,zB1 (by omega),List.length_cons,List.length_cons,List.forall_mem_cons,Option.isSome_map];constructor
  ·intro h';obtain ⟨a,b⟩:=ih.1 (by omega);exact ⟨⟨by omega,a⟩,b⟩
  rintro ⟨⟨_,a⟩,b⟩;have:=ih.2 ⟨a,b⟩;omega
theorem Cf:∀ (n:Nat) (us:List Pr) (i:Nat) (x:Pr),us[i]?=some x→(sM n us x.1=((n+i:Nat):Int)↔((us.take i).any fun y=>y.1==x.1)=false)
 | _,[],_,_,h=>by simp at h
 | n,u::us,0,x,h=>by
  simp only[List.getElem?_cons_zero,Option.some.injEq] at h;subst h;unfold sM;rw[zB0 rfl];exact ⟨fun _=>rfl,fun _=>rfl⟩
 | n,u::us,i+1,x,h=>by
  rw[List.getElem?_cons_succ] at h;unfold sM;rw[List.take_succ_cons,List.any_cons];by_cases hu:u.1=x.1
  ·rw[zB0 hu,hu,beq_self_eq_true,Bool.true_or];exact ⟨fun h=>by omega,fun h=>by cases h⟩
  rw[zB1 hu,zB5 hu,Bool.false_or];have:=Cf (n+1) us i x h;have e:n+1+i=n+(i+1):=by omega
  rw[e] at this;exact this
theorem Oz (n:List UInt8) (us:List Pr):gq n us=iA n us:=by
 rw[Bool.eq_iff_iff];unfold gq iA;simp only[Bool.and_eq_true,decide_eq_true_eq,List.all_eq_true,List.mem_range,Bool.not_eq_true',beq_eq_false_iff_ne];have O0:∀ i,i<us.length→∃ x,us[i]?=some x∧us.getD i ([],0)=x:=fun i hi=>⟨us[i],zB4 hi,by rw[List.getD_eq_getElem?_getD,zB4 hi];rfl⟩;constructor
 ·rintro ⟨⟨⟨⟨h1,h2⟩,h3⟩,h4⟩,h5⟩;have fac:∀ x∈us,1≤x.2∧x.2≤60:=fun x hx=>by
   obtain ⟨i,hi,rfl⟩:=List.getElem_of_mem hx;have:=h4 i hi;rw[List.getD_eq_getElem?_getD,zB4 hi] at this;unfold lH at this;simp only[Option.getD_some,Bool.and_eq_true] at this;have h6:=this.2.2;split at h6
   ·have:=eq_of_beq h6;omega
   simp only[Bool.and_eq_true,decide_eq_true_eq] at h6;omega
  refine ⟨⟨⟨⟨h1,by omega⟩,by omega⟩,(CJ 1 us).2 ⟨fac,h5⟩⟩,fun i hi=>?_⟩;obtain ⟨x,hx,hxd⟩:=O0 i hi;have h6:=h4 i hi;rw[hxd] at h6 ⊢;unfold lH at h6;unfold okU;simp only[Bool.and_eq_true,decide_eq_true_eq] at h6;have h7:=(Cf 0 us i x hx).1 (by rw[Nat.zero_add];exact h6.2.1);rw[h6.1,h7];have h8:=h6.2.2;by_cases T3:i=0
  ·rw[zB0 T3] at h8;rw[h8,T3];rfl
  rw[zB1 T3] at h8;simp only[Bool.and_eq_true,decide_eq_true_eq] at h8;rw[zB5 (by omega:x.2≠1),zB5 (by omega:(i:Int)≠0)];rfl
 rintro ⟨⟨⟨⟨h1,h2⟩,h3⟩,h4⟩,h5⟩;obtain ⟨fac,hv⟩:=(CJ 1 us).1 h4;refine ⟨⟨⟨⟨h1,by omega⟩,by omega⟩,fun i hi=>?_⟩,hv⟩;obtain ⟨x,hx,hxd⟩:=O0 i hi;have h6:=h5 i hi;rw[hxd] at h6 ⊢;unfold okU at h6;unfold lH;simp only[Bool.and_eq_true,Bool.not_eq_true'] at h6;have h7:=(Cf 0 us i x hx).2 h6.1.2;rw[Nat.zero_add] at h7;have hfx:=fac x (List.mem_of_getElem? hx);rw[h6.1.1,h7,decide_eq_true rfl];have h8:=eq_of_beq h6.2;by_cases T3:i=0
 ·rw[zB0 T3,h8,T3];rfl
 rw[zB1 T3];rw[zB5 (by omega:(i:Int)≠0)] at h8;have:x.2≠1:=fun h=>by rw[h] at h8;cases h8
 rw[decide_eq_true (by omega:2≤x.2),decide_eq_true (by omega:x.2≤60)];rfl
theorem Ct (H:Hp) (n:List UInt8) (u:AC) (us:List Pr) (hu:SlP H u us):
  Con E2 70 [.agg [.o (.str n),u]] H (fun _=>False) fun r _=>r=.one (.i .i64 (bN n us)):=by
 refine Con.of rfl fun lg=>?_;have hu:SlP ⟨H.t,H.nx,lg⟩ u us:=hu;generalize (⟨H.t,H.nx,lg⟩:Hp)=H at hu ⊢;unfold bN;rw[←Oz];refine C1.body (E:=E2) (nt:=77) (res:=[.tmp 2]) Tryz.func70 rfl rfl rfl rfl rfl fun tm A0=>?_;have h0:=A0 0 _ rfl;clear A0;have fin:∀ (e:Int) (A:ab) (H3:Hp),slot A.tm 2=.one (.i .i64 e)→A.dfr=[]→Gr H H3→e=(if gq n us=true then 0 else 10)→∃ w H4,aC E2 [.tmp 2] (.ret,A,H3)=.ok [(w,H4)]∧Gr H H4∧∀ _:List Nat,w=.one (.i .i64 (if gq n us=true then 0 else 10)):=fun e A H3 h1 h2 h3 h4=>⟨_,H3,ai (.i .i64 e) (.inr rfl) h2 h1,h3,fun _=>by rw[h4]⟩;refine qG (qA ae h0) fun K hK=>?_;refine hK _ _ ?_;clear hK K;refine R1.gen (fun A1 H1=>Gr H H1∧H.nx<H1.nx∧H1.get H.nx=some (.arr [.o (.str n),u] 97 0 0)∧slot A1.tm 1=.one (.o (.ptr H.nx 0 0 2))∧A1.nt=77∧A1.dfr=[])
  ⟨(Fr.refl _).new _,?_⟩ ?_
 ·exact qU
 rintro A1 H1 ⟨g1,lb,rb,t1,B0,C0⟩;clear h0 tm;refine qG (qA ae (qA t1 (qA B0 (qA rb (qA lb (qA fa (qA aQ uF))))))) fun K hK=>?_;refine WE.con (tb H1 n) fun w H2 g2 hw=>?_;subst hw;have g2':=g1.gr g2;have O3:=hu.gr g2';have rb:H2.get H.nx=some (.arr [.o (.str n),u] 97 0 0):=by rw[g2.get _ lb zB2];exact rb
 have lb:H.nx<H2.nx:=zA0 lb g2.nx;cases N8:nmB n with
 | false=>
  refine qS (qA ae B0) ?_;refine hK _ _ ?_;clear hK K;refine qY ?_;refine qW B0 ?_;exact fin 10 _ _ qp (qd C0) g2' (by unfold gq;rw[N8];rfl)
 | true=>
  by_cases h1:(us.length:Int)<1
  ·have c1:((us.length:Int)<1)=True:=eq_true h1;refine qS (qA ae (qA t1 (qA B0 (qA rb (qA lb (qA bW (qA bX (qA dt (qA O3.len (qA O3.lt c1)))))))))) ?_;refine hK _ _ ?_;clear hK K;refine qY ?_;refine qW B0 ?_;exact fin 10 _ _ qp (qd C0) g2' (by unfold gq;rw[decide_eq_false (by omega:¬1≤us.length)];simp)
  have c1:((us.length:Int)<1)=False:=eq_false h1;by_cases h12:(12:Int)<us.length
  ·have c12:((12:Int)<us.length)=True:=eq_true h12;refine qS (qA ae (qA t1 (qA B0 (qA rb (qA lb (qA bW (qA bX (qA dt (qA O3.len (qA O3.lt (qA c1 c12))))))))))) ?_;refine hK _ _ ?_;clear hK K;refine qY ?_;refine qW B0 ?_;exact fin 10 _ _ qp (qd C0) g2' (by unfold gq;rw[decide_eq_false (by omega:¬us.length≤12)];simp)
  have c12:((12:Int)<us.length)=False:=eq_false h12;refine qS (qA ae (qA t1 (qA B0 (qA rb (qA lb (qA bW (qA bX (qA dt (qA O3.len (qA O3.lt (qA c1 c12))))))))))) ?_;refine hK _ _ ?_;clear hK K;refine qY ?_;refine qW B0 ?_;refine R1.aU fun K k1 k2 k3 k4=>?_;refine R1.loop (fun k A H3=>∃ i:Nat,k=us.length - i∧i≤us.length∧Gr H2 H3∧(∀ j,j<i→lH us j (us.getD j ([],0))=true)∧slot A.tm 1=.one (.o (.ptr H.nx 0 0 2))∧slot A.tm 3=.one (.i .i64 (i:Int))∧A.nt=77∧A.dfr=[]) ?_ us.length
   ⟨0,rfl,Nat.zero_le _,Fr.refl _,fun j hj=>absurd hj (Nat.not_lt_zero j),?_⟩
  ·clear t1 B0 C0 A1;rintro k A H3 ⟨i,rfl,hi,g3,F1,t1,t3,B0,C0⟩;have R7:=O3.gr g3;have rb:H3.get H.nx=some (.arr [.o (.str n),u] 97 0 0):=by rw[g3.get _ lb zB2];exact rb
   have lb:H.nx<H3.nx:=zA0 lb g3.nx;refine qW (qA ae (qA t1 (qA t3 (qA B0 (qA rb (qA lb (qA bW (qA bX (qA dt (qA R7.len R7.lt)))))))))) ?_;refine qE fun Kx Ky hx hy=>?_;refine di (fun hc=>hx ?_) (fun hc=>hy ?_)
   ·clear hx hy Kx Ky;have D0:i<us.length:=by omega
    have J1:=zC0 i (by omega);obtain ⟨id,g,off,cells,rfl,hid,T0,O0⟩:=R7.open (by omega);have ex:us[i]?=some us[i]:=zB4 D0;generalize us[i]=x at ex;have V0:=O0 i x ex;refine qV ?_;refine R1.aU fun K2 q1 q2 q3 q4=>?_;refine qG (qA ae (qA t1 (qA t3 (qA B0 (qA rb (qA lb (qA bW (qA bX (qA gT (qA qP (qA ot (qA lT (qA (ixC D0) (qA hid (qA T0 (qA V0.all (qA V0.le eB))))))))))))))))) fun K hK=>?_;refine hK _ _ ?_;clear hK K;refine R1.gen (fun A4 H4=>Gr H3 H4∧H3.nx<H4.nx∧H4.get H3.nx=some (.arr (prC x) 165 0 0)∧slot A4.tm 1=.one (.o (.ptr H.nx 0 0 2))∧slot A4.tm 3=.one (.i .i64 (i:Int))∧slot A4.tm 4=.one (.o (.ptr H3.nx 0 0 2))∧A4.nt=77∧A4.dfr=[])
     ⟨((Fr.refl _).new _).mod _ (.inl (zA1 _)),?_⟩ ?_
    ·exact qZ (qA t1 (qA t3 (qA B0 (qA C0 eB))))
    clear t1 t3 B0 C0 A;rintro A H4 ⟨g4,lx,rx,t1,t3,t4,B0,C0⟩;have rb:H4.get H.nx=some (.arr [.o (.str n),.o (.sl id g off us.length 2)] 97 0 0):=by rw[g4.get _ lb zB2];exact rb
    have lb:H.nx<H4.nx:=zA0 lb g4.nx;refine qG (qA ae (qA t4 (qA B0 (qA rx (qA lx (qA bK (qA aQ (qA eB uF)))))))) fun K hK=>?_;refine WE.con (tb H4 x.1) fun w H5 g5 hw=>?_;subst hw;have rb:H5.get H.nx=some (.arr [.o (.str n),.o (.sl id g off us.length 2)] 97 0 0):=by rw[g5.get _ lb zB2];exact rb
    have lb:H.nx<H5.nx:=zA0 lb g5.nx;have rx:H5.get H3.nx=some (.arr (prC x) 165 0 0):=by rw[g5.get _ lx zB2];exact rx
    have lx:H3.nx<H5.nx:=zA0 lx g5.nx;have g25:Gr H2 H5:=(g3.gr g4).gr g5;cases W0:nmB x.1 with
    | false=>
     refine qS (qA ae (qA t1 (qA t3 (qA t4 (qA B0 (qA rx (qA lx (qA rb (qA lb (qA bK (qA bV (qA aQ (qA cD (qA eB W0)))))))))))))) ?_;refine hK _ _ ?_;clear hK K;refine qY ?_;refine qW B0 ?_;exact q4 _ _ (k4 _ _ (fin 10 _ _ qp (qd C0) (g2'.gr g25) (by rw[kV ex (by unfold lH;rw[W0];rfl)])))
    | true=>
     have T9:=O3.gr g25;refine qS (qA ae (qA t1 (qA t3 (qA t4 (qA B0 (qA rx (qA lx (qA rb (qA lb (qA bK (qA bV (qA aQ (qA cD (qA eB (qA da NW))))))))))))))) ?_;refine WE.con (JF H5 n _ us x.1 T9 (by omega)) fun w H6 g6 hw=>?_;subst hw;have rx:H6.get H3.nx=some (.arr (prC x) 165 0 0):=by rw[g6.get _ lx zB2];exact rx
     have lx:H3.nx<H6.nx:=zA0 lx g6.nx;have g26:=g25.gr g6;by_cases H_:sM 0 us x.1=(i:Int)
     ·have cix:(sM 0 us x.1==(i:Int))=true:=by rw[beq_iff_eq];exact H_
      by_cases T3:i=0
      ·have ci0:((i:Int)==0)=true:=by rw[beq_iff_eq];omega
       have ci1:(0<(i:Int))=False:=eq_false (by omega);cases hf1:(x.2==1) with
       | false=>
        refine qS (qA ae (qA t1 (qA t3 (qA t4 (qA B0 (qA rx (qA lx (qA rb (qA lb (qA bK (qA bV (qA aQ (qA cD (qA eB (qA cix (qA ci0 hf1)))))))))))))))) ?_;refine hK _ _ ?_;clear hK K;refine qY ?_;refine qW B0 ?_;exact q4 _ _ (k4 _ _ (fin 10 _ _ qp (qd C0) (g2'.gr g26) (by rw[kV ex (by unfold lH;rw[zB0 T3,hf1,Bool.and_false,Bool.and_false])])))
       | true=>
        have Y1:lH us i x=true:=by unfold lH;rw[W0,decide_eq_true H_,zB0 T3,hf1];rfl
        refine qS (qA ae (qA t1 (qA t3 (qA t4 (qA B0 (qA rx (qA lx (qA rb (qA lb (qA bK (qA bV (qA aQ (qA cD (qA eB (qA cix (qA ci0 (qA hf1 ci1))))))))))))))))) ?_;refine hK _ _ ?_;clear hK K;refine qY ?_;refine qW B0 ?_;refine q1 _ _ ?_;refine qW (qA B0 (qA t3 J1)) ?_;refine ⟨us.length - (i+1),by omega,i+1,rfl,D0,g26,fun j hj=>?_,?_,?_,?_,?_⟩
        ·rcases Nat.lt_or_ge j i with h|h
         ·exact F1 j h
         have:j=i:=by omega
         subst this;rw[List.getD_eq_getElem?_getD,ex];exact Y1
        ·simp only[aa,Nat.reduceEqDiff,reduceIte,t1]
        ·simp only[aa,Nat.reduceEqDiff,reduceIte]
        ·simp only[aE,B0]
        simp only[ak,C0]
      have ci0:((i:Int)==0)=false:=zB5 (by omega);have ci1:(0<(i:Int))=True:=eq_true (by omega);by_cases hf2:x.2<2
      ·have cf2:(x.2<2)=True:=eq_true hf2;refine qS (qA ae (qA t1 (qA t3 (qA t4 (qA B0 (qA rx (qA lx (qA rb (qA lb (qA bK (qA bV (qA aQ (qA cD (qA eB (qA cix (qA ci0 (qA ci1 cf2))))))))))))))))) ?_;refine hK _ _ ?_;clear hK K;refine qY ?_;refine qW B0 ?_;exact q4 _ _ (k4 _ _ (fin 10 _ _ qp (qd C0) (g2'.gr g26) (by rw[kV ex (by unfold lH;rw[zB1 T3,decide_eq_false (by omega:¬2≤x.2),Bool.false_and,Bool.and_false,Bool.and_false])])))
      have cf2:(x.2<2)=False:=eq_false hf2;by_cases hf60:60<x.2
      ·have cf60:(60<x.2)=True:=eq_true hf60;refine qS (qA ae (qA t1 (qA t3 (qA t4 (qA B0 (qA rx (qA lx (qA rb (qA lb (qA bK (qA bV (qA aQ (qA cD (qA eB (qA cix (qA ci0 (qA ci1 (qA cf2 cf60)))))))))))))))))) ?_;refine hK _ _ ?_;clear hK K;refine qY ?_;refine qW B0 ?_;exact q4 _ _ (k4 _ _ (fin 10 _ _ qp (qd C0) (g2'.gr g26) (by rw[kV ex (by unfold lH;rw[zB1 T3,decide_eq_false (by omega:¬x.2≤60),Bool.and_false,Bool.and_false,Bool.and_false])])))
      have cf60:(60<x.2)=False:=eq_false hf60;have Y1:lH us i x=true:=by unfold lH;rw[W0,decide_eq_true H_,zB1 T3,decide_eq_true (by omega:2≤x.2),decide_eq_true (by omega:x.2≤60)];rfl
      refine qS (qA ae (qA t1 (qA t3 (qA t4 (qA B0 (qA rx (qA lx (qA rb (qA lb (qA bK (qA bV (qA aQ (qA cD (qA eB (qA cix (qA ci0 (qA ci1 (qA cf2 cf60)))))))))))))))))) ?_;refine hK _ _ ?_;clear hK K;refine qY ?_;refine qW B0 ?_;refine q1 _ _ ?_;refine qW (qA B0 (qA t3 J1)) ?_;refine ⟨us.length - (i+1),by omega,i+1,rfl,D0,g26,fun j hj=>?_,?_,?_,?_,?_⟩
      ·rcases Nat.lt_or_ge j i with h|h
       ·exact F1 j h
       have:j=i:=by omega
       subst this;rw[List.getD_eq_getElem?_getD,ex];exact Y1
      ·simp only[aa,Nat.reduceEqDiff,reduceIte,t1]
      ·simp only[aa,Nat.reduceEqDiff,reduceIte]
      ·simp only[aE,B0]
      simp only[ak,C0]
     have cix:(sM 0 us x.1==(i:Int))=false:=zB5 H_;refine qS (qA ae (qA t1 (qA t3 (qA t4 (qA B0 (qA rx (qA lx (qA rb (qA lb (qA bK (qA bV (qA aQ (qA cD (qA eB cix)))))))))))))) ?_;refine hK _ _ ?_;clear hK K;refine qY ?_;refine qW B0 ?_;exact q4 _ _ (k4 _ _ (fin 10 _ _ qp (qd C0) (g2'.gr g26) (by rw[kV ex (by unfold lH;rw[decide_eq_false H_,Bool.false_and,Bool.and_false])])))
   clear hx hy Kx Ky;have E3:i=us.length:=by omega
   have hall':((List.range us.length).all fun i=>lH us i (us.getD i ([],0)))=true:=List.all_eq_true.2 fun j hj=>F1 j (by have:=List.mem_range.1 hj;omega);have fac:∀ x∈us,1≤x.2∧x.2≤60:=fun x hx=>by
    obtain ⟨j,hj,rfl⟩:=List.getElem_of_mem hx;have:=F1 j (by omega);rw[List.getD_eq_getElem?_getD,zB4 hj] at this;unfold lH at this;simp only[Option.getD_some,Bool.and_eq_true] at this;have h6:=this.2.2;split at h6
    ·have:=eq_of_beq h6;omega
    simp only[Bool.and_eq_true,decide_eq_true_eq] at h6;omega
   refine qW B0 ?_;refine k2 _ _ ?_;refine qG (qA ae (qA t1 (qA B0 (qA rb (qA lb (qA da Nr)))))) fun K hK=>?_;refine WE.con (IX H3 n u us R7 (by omega) fac) fun w H5 g5 ⟨c,hw,_⟩=>?_;subst hw;refine qS (qA ae B0) ?_;refine hK _ _ ?_;clear hK K;have g5':=(g2'.gr g3).gr g5;cases N4:(mG 1 us).isSome with
   | true=>
    refine qW B0 ?_;refine qY ?_;refine qW B0 ?_;refine fin 0 _ _ qp (qd C0) g5' ?_;have:gq n us=true:=by
     unfold gq;rw[N8,hall',N4,decide_eq_true (by omega:1≤us.length),decide_eq_true (by omega:us.length≤12)];rfl
    rw[this];rfl
   | false=>
    refine qW B0 ?_;refine qY ?_;refine qW B0 ?_;refine fin 10 _ _ qp (qd C0) g5' ?_;have:gq n us=false:=by
     unfold gq;rw[N4,Bool.and_false]
    rw[this];rfl
  simp only[aa,Nat.reduceEqDiff,reduceIte,aE,ak,t1,B0,C0,and_self,true_and];exact ⟨rfl,trivial⟩
theorem Du:loadT Tryz.prog 145=some (true,2):=by kernel_rfl
theorem Fb:aS Tryz.prog 145=some 2:=by kernel_rfl
theorem vi:(aB Tryz.prog 145).map (fun z=>(ofValue z).cells)=some [.o .nilS,.o .nilS]:=by kernel_rfl
theorem HF:aP Tryz.prog 145=4:=by kernel_rfl
theorem gG:aI Tryz.prog 145 0=some (0,22,1):=by kernel_rfl
theorem vZ:aI Tryz.prog 145 1=some (1,129,1):=by kernel_rfl
def wa:Nat→Option (Nat×Nat):=fun i=>(#[(0,1),(1,1)]:Array (Nat×Nat))[i]?
theorem vC:ca Tryz.prog 145=some wa:=by kernel_rfl
theorem vp:wa 0=some (0,1):=rfl
theorem vJ:wa 1=some (1,1):=rfl
theorem Ab:loadT Tryz.prog 30=some (false,1):=by kernel_rfl
theorem Ag:aS Tryz.prog 30=some 1:=by kernel_rfl
theorem zt:(aB Tryz.prog 30).map (fun z=>(ofValue z).cells)=some [.o .nilP]:=by kernel_rfl
theorem zF:aP Tryz.prog 30=0:=by kernel_rfl
theorem IF:al Tryz.prog 72=true:=by kernel_rfl
theorem Yf:al Tryz.prog 71=true:=by kernel_rfl
theorem VH:al Tryz.prog 29=true:=by kernel_rfl
theorem DE (H:Hp) (n:List UInt8) (u:AC) (us:List Pr) (hu:SlP H u us) (hL:us.length≤1000000):
  Con E2 72 [.agg [.o (.str n),u]] H (fun _=>False) fun r H'=>∃ u',r=.agg [.o (.str n),u']∧SlP H' u' us∧∀ id∈(AV.one u').ids,H.nx≤id:=by
 refine Con.of rfl fun lg=>?_;have hu:SlP ⟨H.t,H.nx,lg⟩ u us:=hu;have e0:H.nx=(⟨H.t,H.nx,lg⟩:Hp).nx:=rfl;rw[e0];clear e0;generalize (⟨H.t,H.nx,lg⟩:Hp)=H at hu ⊢;refine C1.body (E:=E2) (nt:=11) (res:=[.cell 2 97]) Tryz.func72 rfl rfl rfl rfl rfl fun tm A0=>?_;have h0:=A0 0 _ rfl;clear A0;refine qG (qA ae (qA h0 eS)) fun K hK=>?_;refine hK _ _ ?_;clear hK K;refine R1.gen (fun A1 H1=>Gr H H1∧H.nx+1<H1.nx∧H1.get H.nx=some (.arr [.o (.str n),u] 97 0 0)∧H1.get (H.nx+1)=some (.arr [.o (.str []),.o .nilS] 97 0 0)∧slot A1.tm 1=.one (.o (.ptr H.nx 0 0 2))∧slot A1.tm 2=.one (.o (.ptr (H.nx+1) 0 0 2))∧A1.nt=11∧A1.dfr=[])
  ⟨((Fr.refl _).new _).new _,?_⟩ ?_
 ·exact qU
 rintro A1 H1 ⟨g1,n1,r1,r2,t1,t2,B0,C0⟩;clear h0 tm;have G2:SlP H1 u us:=hu.gr g1;have l1:H.nx<H1.nx:=by omega
 have hlu:∀ id∈(AV.one u).ids,id<H1.nx:=G2.lt;obtain ⟨z,hz,L1⟩:=LK;refine qG (qA ae B0) fun K hK=>?_;refine hK _ _ ?_;clear hK K;repeat refine R1.aA ?_
 (first|refine R1.mq (ms:=[0,1,0,0,8,28,63,127]) (by kernel_rfl) (by kernel_rfl) fun K hK=>?_|refine R1.lZ (ms:=[0,1,0,0,8,28,63,127]) (by kernel_rfl) (by kernel_rfl) fun K hK=>?_)
 simp (config:={decide:=true}) only [qB,aq,Nat.reduceLT,Nat.reduceEqDiff,Nat.reduceLeDiff,reduceIte,Nat.reduceAdd,Nat.reduceSub,Nat.reduceMul,Int.reduceLT,Int.reduceLE,Int.reduceBEq,qD,bJ,bQ,aR,reduceCtorEq,ae,t1,t2,B0,r1,l1,fa,bW,aQ,bX]
 refine Sg gT KI hz L1 (by decide) G2 (by omega) (fun id h=>by have:=hlu id h;simp (config:={decide:=true}) [aR,bJ] <;> omega) fun v c1 H2 hv hvn g2 hc=>?_;subst hc;have r2:H2.get (H.nx+1)=some (.arr [.o (.str []),.o .nilS] 97 0 0):=by rw[g2.get _ n1 zB2];exact r2
 have n2:H.nx+1<H2.nx:=zA0 n1 g2.nx;simp (config:={decide:=true}) only [qB,aq,Nat.reduceLT,Nat.reduceEqDiff,Nat.reduceLeDiff,reduceIte,Nat.reduceAdd,Nat.reduceSub,Nat.reduceMul,Int.reduceLT,Int.reduceLE,Int.reduceBEq,qD,bJ,bQ,aR,reduceCtorEq,ae,t1,t2,B0,MH eS sX,pS,pV,jg,r2,n2]
 refine hK _ _ ?_;clear hK K;refine qV ?_;have F6:SlP (H2.mod (H.nx+1) (.arr [.o (.str n),v] 97 0 0)) v us:=SlC.fr hv (X:=fun k=>k=H.nx+1) ((Fr.refl _).mod _ (.inr rfl)) fun id h hh=>by have:=hvn id h;omega
 exact ⟨_,_,fb (id:=H.nx+1) (g:=0) da (.inr rfl) (by simp only[ak,C0];rfl) (by simp only[aa,Nat.reduceEqDiff,reduceIte,t2]) (by rw[aj rfl];exact cy (zA1 _) (zA1 _)) (zA1 _) rfl,(g1.gr g2).mod _ (.inl (Nat.le_succ _)),fun _=>⟨v,rfl,F6,fun id h=>by have:=hvn id h;omega⟩⟩
def RBk (H:Hp) (p:AC) (ls:List Lad):Prop:=∃ kb lad,p=.o (.ptr kb 0 0 2)∧kb<H.nx∧H.get kb=some (.arr [lad,.o .nilS] 145 0 0)∧fv H lad ls
def atN:Nat→List Lad→List UInt8→Int
 | _,[],_=>-1
 | n,x::l,s=>if x.1=s then (n:Int) else atN (n+1) l s
theorem Dh:∀ (n:Nat) (ls:List Lad) (s:List UInt8),atN n ls s=(iv n ls s).elim (-1) fun i=>(i:Int)
 | _,[],_=>rfl
 | n,x::l,s=>by
  unfold atN iv;by_cases h:x.1=s
  ·rw[zB0 h,zB0 h];rfl
  rw[zB1 h,zB1 h];exact Dh (n+1) l s
theorem Vj (H:Hp) (p:AC) (ls:List Lad) (s:List UInt8) (hp:RBk H p ls) (hL:ls.length≤1000000):
  Con E2 71 [.one p,.one (.o (.str s))] H (fun _=>False) fun r _=>r=.one (.i .i64 (atN 0 ls s)):=by
 refine Con.of rfl fun lg=>?_;have hp:RBk ⟨H.t,H.nx,lg⟩ p ls:=hp;generalize (⟨H.t,H.nx,lg⟩:Hp)=H at hp ⊢;refine C1.body (E:=E2) (nt:=26) (res:=[.tmp 4]) Tryz.func71 rfl rfl rfl rfl rfl fun tm A0=>?_;have h0:=A0 0 _ rfl;have h1:=A0 1 _ rfl;clear A0;obtain ⟨kb,lad,rfl,k1,k2,hl⟩:=hp;generalize E0:atN 0 ls s=r0;refine qV ?_;refine R1.aU fun K k1' k2' k3 k4=>?_;refine R1.loop (fun k A H2=>∃ i:Nat,k=ls.length - i∧i≤ls.length∧H2=H∧atN i (ls.drop i) s=r0∧slot A.tm 0=.one (.o (.ptr kb 0 0 2))∧slot A.tm 1=.one (.o (.str s))∧slot A.tm 5=.one (.i .i64 (i:Int))∧A.nt=26∧A.dfr=[]) ?_ ls.length
  ⟨0,rfl,Nat.zero_le _,rfl,E0,?_⟩
 ·clear h0 h1 tm;rintro k A H2 ⟨i,rfl,hi,rfl,hr,t0,t1,t5,B0,C0⟩;refine qW (qA ae (qA t0 (qA t5 (qA B0 (qA k1 (qA k2 (qA gG (qA lV (qA iL (qA hl.len hl.lt)))))))))) ?_;refine qE fun Kx Ky hx hy=>?_;refine di (fun hc=>hx ?_) (fun hc=>hy ?_)
  ·clear hx hy Kx Ky;have D0:i<ls.length:=by omega
   obtain ⟨id,g,off,cells,rfl,hid,T0,O0⟩:=hl.open (by omega);have ex:ls[i]?=some ls[i]:=zB4 D0;have Z0:ls.drop i=ls[i]::ls.drop (i+1):=List.drop_eq_getElem_cons D0;generalize ls[i]=x at ex Z0;obtain ⟨u,hu,m9,V0,T5,hx3,hx4,hx5⟩:=O0 i x ex;have J1:=zC0 i (by omega);rw[Z0,atN] at hr;refine qV ?_;refine R1.aU fun K2 q1 q2 q3 q4=>?_;refine qG (qA ae (qA t0 (qA t1 (qA t5 (qA B0 (qA k1 (qA k2 (qA gG (qA lV (qA fe (qA fa (qA aQ (qA (ixC D0) (qA hid (qA T0 (qA T5 hx4)))))))))))))))) fun K hK=>?_;refine hK _ _ ?_;clear hK K;by_cases m6:x.1=s
   ·rw[zB0 m6] at hr;have ce:lEq x.1 s=true:=by rw[cM,m6,beq_self_eq_true]
    refine qX ce ?_;refine qW (qA B0 t5) ?_;exact q4 _ _ (k4 _ _ ⟨_,_,ai (.i .i64 (i:Int)) (.inr rfl) (qd C0) qp,Fr.refl _,fun _=>by rw[←hr]⟩)
   rw[zB1 m6] at hr;have ce:lEq x.1 s=false:=by rw[cM];exact zB5 m6
   refine qX ce ?_;refine qW B0 ?_;refine q1 _ _ ?_;refine qW (qA B0 (qA t5 J1)) ?_;refine ⟨ls.length - (i+1),by omega,i+1,rfl,D0,rfl,hr,?_,?_,?_,?_,?_⟩
   ·simp only[aa,Nat.reduceEqDiff,reduceIte,t0]
   ·simp only[aa,Nat.reduceEqDiff,reduceIte,t1]
   ·simp only[aa,Nat.reduceEqDiff,reduceIte]
   ·simp only[aE,B0]
   simp only[ak,C0]
  clear hx hy Kx Ky;have E3:i=ls.length:=by omega
  rw[E3,List.drop_length,atN] at hr;refine qW B0 ?_;refine k2' _ _ ?_;refine qW B0 ?_;exact ⟨_,_,ai (.i .i64 (-1)) (.inr rfl) (qd C0) qp,Fr.refl _,fun _=>by rw[←hr]⟩
 simp only[aa,Nat.reduceEqDiff,reduceIte,aE,ak,h0,h1,and_self,true_and];exact ⟨rfl,trivial⟩
structure RB (n0 kb:Nat) (ll:List Lad) (H1:Hp) (lad:AC) (r1:Option Nat):Prop where
 kbg:H1.get kb=some (.arr [lad,.o .nilS] 145 0 0)
 o1:∃ css:List (List AC),eU H1 lad 97 2 ll.length (css.flatMap id) r1∧Al (fun c x=>c.length=2∧∃ u,c=[.o (.str x.1),u]∧SlP H1 u x.2∧∀ id∈(AV.one u).ids,id≠kb∧some id≠r1) css ll
 kn:n0≤kb∧kb<H1.nx
 n1:∀ q,r1=some q→n0≤q∧q<H1.nx∧q≠kb
section
variable {n0 kb:Nat} {ll:List Lad} {H1 H2:Hp} {lad:AC} {r1:Option Nat}
theorem RB.Jc (h:RB n0 kb ll H1 lad r1) (hg:Gr H1 H2):RB n0 kb ll H2 lad r1 where
 kbg:=by rw[hg.get _ h.kn.2 zB2];exact h.kbg
 o1:=let ⟨css,a,b⟩:=h.o1;⟨css,a.fr hg fun _ _ h=>h,b.mono fun c x ⟨hc,u,e,hu,hi⟩=>⟨hc,u,e,hu.gr hg,hi⟩⟩
 kn:=⟨h.kn.1,zA0 h.kn.2 hg.nx⟩
 n1:=fun q hq=>let ⟨a,b,c⟩:=h.n1 q hq;⟨a,zA0 b hg.nx,c⟩
theorem RB.XS (h:RB n0 kb ll H1 lad r1) {x:Lad} {u v5:AC} {r5:Nat} {H5:Hp} (hu:SlP H1 u x.2) (hi:∀ id∈(AV.one u).ids,id≠kb∧some id≠r1)
  {css:List (List AC)} (p7:Al (fun c x=>c.length=2∧∃ u,c=[.o (.str x.1),u]∧SlP H1 u x.2∧∀ id∈(AV.one u).ids,id≠kb∧some id≠r1) css ll)
  (ho:eU H5 v5 97 2 (ll.length+1) (css.flatMap id++[.o (.str x.1),u]) (some r5)) (hf:Fr (fun i=>r1=some i) H1 H5) (hr:r1=some r5∨H1.nx≤r5):
  RB n0 kb (ll++[x]) (H5.mod kb (.arr [v5,.o .nilS] 145 0 0)) v5 (some r5):=by
 have r5kb:r5≠kb:=by
  rcases hr with e|e
  ·exact (h.n1 _ e).2.2
  have:=h.kn.2;omega
 have n0le:n0≤H1.nx:=zA2 h.kn.1 (Nat.le_of_lt h.kn.2);have lt5:r5<H5.nx:=by
  rcases ho with ⟨_,_,_,e⟩|⟨id,lo,gen,e,_,_,_,_,hl⟩
  ·cases e
  cases e;exact hl
 have keep:∀ {c:List AC} {x:Lad},(c.length=2∧∃ u,c=[.o (.str x.1),u]∧SlP H1 u x.2∧∀ id∈(AV.one u).ids,id≠kb∧some id≠r1) →
   c.length=2∧∃ u,c=[.o (.str x.1),u]∧SlP (H5.mod kb (.arr [v5,.o .nilS] 145 0 0)) u x.2∧∀ id∈(AV.one u).ids,id≠kb∧some id≠some r5:=by
  rintro c x ⟨hc,u,e,hu,hi⟩;refine ⟨hc,u,e,SlC.fr (SlC.fr hu hf fun i h' e=>(hi i h').2 e.symm) du fun i h' e=>(hi i h').1 e,fun i h'=>⟨(hi i h').1,fun e=>?_⟩⟩;cases e
  rcases hr with e|e
  ·exact (hi _ h').2 e.symm
  have:=hu.lt _ h';omega
 refine ⟨aj rfl,⟨css++[[.o (.str x.1),u]],?_,?_⟩,⟨h.kn.1,zA0 h.kn.2 hf.nx⟩,?_⟩
 ·rw[List.length_append,List.length_singleton,List.flatMap_append];exact ho.fr du fun i hi e=>by cases hi;exact r5kb e
 ·exact Al.app (p7.mono fun c x hc=>keep hc) (keep ⟨rfl,u,rfl,hu,hi⟩)
 intro q hq;cases hq
 refine ⟨?_,lt5,r5kb⟩;rcases hr with e|e
 ·exact (h.n1 _ e).1
 omega
theorem RB.book (h:RB n0 kb ll H1 lad r1):RBk H1 (.o (.ptr kb 0 0 2)) ll:=by
 obtain ⟨css,a,b⟩:=h.o1;exact ⟨kb,lad,rfl,h.kn.2,h.kbg,css,a.slc,b.mono fun c x ⟨hc,u,e,hu,_⟩=>⟨hc,u,e,hu⟩⟩
end
theorem Qq (H:Hp) (v:AC) (ls:List Lad) (hl:fv H v ls):
  Con E2 29 [.one v,.one (.o .nilS)] H (fun _=>False) fun r H'=>∃ p,r=.tup [(false,[p]),(false,[.i .i64 (ni ls)])]∧(ni ls=0→RBk H' p ls)∧(ni ls≠0→p=.o .nilP):=by
 refine Con.of rfl fun lg=>?_;have hl:fv ⟨H.t,H.nx,lg⟩ v ls:=hl;generalize (⟨H.t,H.nx,lg⟩:Hp)=H at hl ⊢;refine C1.body (E:=E2) (nt:=86) (res:=[.tmp 4,.tmp 5]) Tryz.func29 rfl rfl rfl rfl rfl fun tm A0=>?_;have h0:=A0 0 _ rfl;have h1:=A0 1 _ rfl;clear A0;have lnB:eu Tryz.prog 129=some 1:=by kernel_rfl
 by_cases U8:(32:Int)<ls.length
 ·have c32:((32:Int)<ls.length)=True:=eq_true U8;refine qW ae ?_;refine qG (qA ae (qA h0 (qA h1 (qA iL (qA hl.len (qA hl.lt c32)))))) fun K hK=>?_;refine hK _ _ ?_;clear hK K;refine qY ?_;refine qV ?_;refine ⟨_,_,aM (.o .nilP) (.i .i64 3) (.inr rfl) rfl (by simp only[aa,Nat.reduceEqDiff,reduceIte,rh]) qp,Fr.refl _,fun _=>?_⟩;have:ni ls=3:=zB0 U8;rw[this];exact ⟨_,rfl,fun h=>(by cases h),fun _=>rfl⟩
 have c32:((32:Int)<ls.length)=False:=eq_false U8;refine qW ae ?_;refine qG (qA ae (qA h0 (qA h1 (qA iL (qA hl.len (qA hl.lt (qA c32 lnB))))))) fun K hK=>?_;refine hK _ _ ?_;clear hK K;refine qY ?_;refine R1.bg ?_;refine qG (qA ae (qA vi vC)) fun K hK=>?_;refine hK _ _ ?_;clear hK K;refine R1.gen (fun A1 H1=>Gr H H1∧RB H.nx H.nx [] H1 (.o .nilS) none∧slot A1.tm 0=.one v∧slot A1.tm 1=.one (.o .nilS)∧slot A1.tm 6=.one (.o (.ptr H.nx 0 0 2))∧A1.nt=86∧A1.dfr=[])
  ⟨(Fr.refl _).new _,⟨aG rfl,⟨[],.inl ⟨rfl,rfl,rfl,rfl⟩,trivial⟩,⟨zA1 _,zA6 _⟩,fun q h=>(by cases h)⟩,?_⟩ ?_
 ·exact qZ (qA h0 h1)
 clear h0 h1 tm;rintro A1 H1 ⟨g1,nb,t0,t1,t6,B0,C0⟩;obtain ⟨kb,hkb⟩:∃ k,k=H.nx:=⟨_,rfl⟩;rw[←hkb] at t6;have nb:RB H.nx kb [] H1 (.o .nilS) none:=by rw[hkb];exact nb
 clear hkb;have C3:ni ls=rO [] ls:=zB1 U8;rw[C3];generalize E0:rO [] ls=r0;refine qW B0 ?_;refine R1.aU fun K k1 k2 k3 k4=>?_;refine R1.loop (fun k A2 H2=>∃ (i:Nat) (lad:AC) (r1:Option Nat),k=ls.length - i∧i≤ls.length∧RB H.nx kb (ls.take i) H2 lad r1∧Gr H H2∧rO (ls.take i) (ls.drop i)=r0 ∧
  slot A2.tm 0=.one v∧slot A2.tm 1=.one (.o .nilS)∧slot A2.tm 6=.one (.o (.ptr kb 0 0 2))∧slot A2.tm 7=.one (.i .i64 (i:Int))∧A2.nt=86∧A2.dfr=[]) ?_ ls.length
  ⟨0,_,_,rfl,Nat.zero_le _,nb,g1,E0,?_⟩
 ·clear t0 t1 t6 B0 C0 A1;rintro k A H1 ⟨i,lad,r1,rfl,hi,nb,g1,hr,t0,t1,t6,t7,B0,C0⟩;have q6:=hl.gr g1;refine qW (qA ae (qA t0 (qA t7 (qA B0 (qA iL (qA q6.len q6.lt)))))) ?_;refine qE fun Kx Ky hx hy=>?_;refine di (fun hc=>hx ?_) (fun hc=>hy ?_)
  ·clear hx hy Kx Ky;have D0:i<ls.length:=by omega
   obtain ⟨id,g,off,cells,rfl,J4,W6,O0⟩:=hl.open (by omega);have hid:id<H1.nx:=zA0 J4 g1.nx;have hg:rowOf (H1.get id) g=some cells:=by rw[g1.get _ J4 zB2];exact W6
   have ex:ls[i]?=some ls[i]:=zB4 D0;have Z0:ls.drop i=ls[i]::ls.drop (i+1):=List.drop_eq_getElem_cons D0;have U2:ls.take (i+1)=ls.take i++[ls[i]]:=List.take_succ_eq_append_getElem D0;generalize ls[i]=x at ex Z0 U2;obtain ⟨u,hu0,m9,V0,T5,hx3,hx4,hx5⟩:=O0 i x ex;have hu:SlP H1 u x.2:=hu0.gr g1;have B4:(ls.take i).length=i:=by rw[List.length_take];omega
   have hi32:ls.length≤32:=by omega
   have J1:=zC0 i (by omega);rw[Z0,rO] at hr;refine qV ?_;refine R1.aU fun K2 q1 q2 q3 q4=>?_;refine qG (qA ae (qA t0 (qA t7 (qA B0 (qA fe (qA da (qA (ixC D0) (qA hid (qA hg (qA m9 (qA V0 HQ))))))))))) fun K hK=>?_;refine WE.con (Ct H1 x.1 u x.2 hu) fun w H4 g4 hv=>?_;subst hv;have nb4:=nb.Jc g4;have g4':=g1.gr g4;have S3:id<H4.nx:=zA0 hid g4.nx;have hg4:rowOf (H4.get id) g=some cells:=by rw[g4.get _ hid zB2];exact hg
   refine qS (qA ae B0) ?_;refine hK _ _ ?_;clear hK K;refine qW (qA ae B0) ?_;refine qE fun Kx Ky hx hy=>?_;refine di (fun hd=>hx ?_) (fun hd=>hy ?_)
   ·clear hx hy Kx Ky;have Y0:bN x.1 x.2≠0:=by simpa using hd
    rw[zB0 Y0] at hr;subst hr;refine qW (qA ae B0) ?_;refine q4 _ _ (k4 _ _ ⟨_,_,aM (.o .nilP) (.i .i64 (bN x.1 x.2)) (.inr rfl) (qd C0) (by simp only[aa,Nat.reduceEqDiff,reduceIte,rh]) qp,g4',fun _=>⟨_,rfl,fun h=>absurd h Y0,fun _=>rfl⟩⟩)
   clear hx hy Kx Ky;have hz:bN x.1 x.2=0:=by simpa using hd
   rw[zB1 (fun h=>h hz)] at hr;have hL12:=lh hz;refine R1.bg ?_;refine qG (qA ae (qA t0 (qA t6 (qA t7 (qA B0 (qA fe (qA fa (qA aQ (qA (ixC D0) (qA S3 (qA hg4 (qA T5 (qA hx4 Yf))))))))))))) fun K hK=>?_;refine WE.con (Vj H4 _ (ls.take i) x.1 nb4.book (by omega)) fun w H5 g5 hw=>?_;subst hw;have nb5:=nb4.Jc g5;have g5':=g4'.gr g5;have O9:id<H5.nx:=zA0 S3 g5.nx;have hg5:rowOf (H5.get id) g=some cells:=by rw[g5.get _ S3 zB2];exact hg4
   cases J3:iv 0 (ls.take i) x.1 with
   | some j=>
    have cge:(0≤atN 0 (ls.take i) x.1)=True:=eq_true (by rw[Dh,J3,Option.elim_some];omega);rw[zB0 (by rw[J3];rfl)] at hr;subst hr;refine qS (qA ae (qA B0 cge)) ?_;refine hK _ _ ?_;clear hK K;refine qY ?_;refine qW (qA ae B0) ?_;refine q4 _ _ (k4 _ _ ⟨_,_,aM (.o .nilP) (.i .i64 2) (.inr rfl) (qd C0) (by simp only[aa,Nat.reduceEqDiff,reduceIte,rh]) qp,g5',fun _=>⟨_,rfl,fun h=>(by cases h),fun _=>rfl⟩⟩)
   | none=>
    have cge:(0≤atN 0 (ls.take i) x.1)=False:=eq_false (by rw[Dh,J3,Option.elim_none];omega);rw[zB1 (by rw[J3];decide)] at hr;refine qS (qA ae (qA B0 cge)) ?_;refine hK _ _ ?_;clear hK K;refine qY ?_;refine R1.bg ?_;have V9:H.nx≤kb:=nb5.kn.1;have lkb:=nb5.kn.2;have rkb:=nb5.kbg;have T9:SlP H5 u x.2:=hu0.gr g5';refine qH (qA ae (qA t0 (qA t6 (qA t7 (qA B0 (qA rkb (qA lkb (qA gG (qA lV (qA da (qA fe (qA (ixC D0) (qA O9 (qA hg5 (qA m9 (qA V0 IF)))))))))))))))) fun K hK=>?_;refine WE.Pm (DE H5 x.1 u x.2 T9 (by omega)) fun w H6 g6 ⟨u',hv,hu',L2⟩=>?_;subst hv;have nb6:=nb5.Jc g6;obtain ⟨css,ho1,p7⟩:=nb6.o1;obtain ⟨zl,L1,hzll⟩:=QV;obtain ⟨I9,v7,H7,r7,Q1,ho7,m7,hr7⟩:=js fe SC L1 hzll (by decide) ho1 [.o (.str x.1),u'] rfl (by rw[B4];omega);have rk7:H7.get kb=some (.arr [lad,.o .nilS] 145 0 0):=by rw[m7.get _ nb6.kn.2 (fun e=>(nb6.n1 _ e).2.2 rfl)];exact nb6.kbg
    have lk7:kb<H7.nx:=zA0 nb6.kn.2 m7.nx;have hui:∀ k∈(AV.one u').ids,k≠kb∧some k≠r1:=fun k h=>by
     have h5:=L2 k h;refine ⟨by omega,fun e=>?_⟩;have:=(nb5.n1 _ e.symm).2.1;omega
    have nb8:=nb6.XS hu' hui p7 ho7 m7 hr7;have g8:Gr H (H7.mod kb (.arr [v7,.o .nilS] 145 0 0)):=((g5'.gr g6).then m7 fun k hk=>.inl (nb6.n1 _ hk).1).mod _ (.inl V9);refine qS (qA ae (qA t6 (qA B0 (qA fe (qA eS (qA mV (qA I9 (qA Q1 (qA rk7 (qA lk7 (qA gG uu))))))))))) ?_;refine ⟨I9,?_⟩;refine hK _ _ ?_;clear hK K;refine q1 _ _ ?_;refine qW (qA B0 (qA t7 J1)) ?_;rw[←U2] at nb8 hr;refine ⟨ls.length - (i+1),by omega,i+1,_,_,rfl,D0,nb8,g8,hr,?_,?_,?_,?_,?_,?_⟩
    ·simp only[aa,Nat.reduceEqDiff,reduceIte,t0]
    ·simp only[aa,Nat.reduceEqDiff,reduceIte,t1]
    ·simp only[aa,Nat.reduceEqDiff,reduceIte,t6]
    ·simp only[aa,Nat.reduceEqDiff,reduceIte]
    ·simp only[aE,B0]
    simp only[ak,C0]
  clear hx hy Kx Ky;have E3:i=ls.length:=by omega
  rw[E3,List.drop_length,rO] at hr;rw[E3,List.take_length] at nb;refine qW B0 ?_;refine k2 _ _ ?_;refine qW (qA ae B0) ?_;refine R1.aU fun K2 q1 q2 q3 q4=>?_;refine R1.round ?_;refine qW (qA ae (qA B0 (qA t1 lnB))) ?_;refine qY ?_;refine qW B0 ?_;refine q2 _ _ ?_;refine qW (qA ae (qA B0 t6)) ?_;refine ⟨_,_,aM (.o (.ptr kb 0 0 2)) (.i .i64 0) (.inr rfl) (qd C0) qp qp,g1,fun _=>⟨_,by rw[←hr],fun _=>nb.book,fun h=>absurd hr.symm h⟩⟩
 simp only[aa,Nat.reduceEqDiff,reduceIte,aE,ak,t0,t1,t6,B0,C0,and_self,true_and];exact ⟨rfl,trivial⟩
def Re (H:Hp) (p:AC):Option (List Lad)→Prop
 | some ls=>RBk H p ls
 | none=>p=.o .nilP
theorem Pt:al Tryz.prog 7=true:=by kernel_rfl
theorem La:∀ (acc ls:List Lad),rO acc ls=0→∀ x∈ls,bN x.1 x.2=0
 | _,[],_=>fun _ h=>absurd h (List.not_mem_nil)
 | acc,y::ls,h=>by
  rw[rO] at h;by_cases hc:bN y.1 y.2≠0
  ·rw[zB0 hc] at h;exact absurd h hc
  rw[zB1 hc] at h;by_cases hi:(iv 0 acc y.1).isSome=true
  ·rw[zB0 hi] at h;cases h
  rw[zB1 hi] at h;intro x hx;rcases List.mem_cons.1 hx with rfl|hx
  ·exact Classical.not_not.1 hc
  exact La _ ls h x hx
theorem UR {ls:List Lad} (h:ni ls=0):ls.length≤32∧∀ x∈ls,x.2.length≤12:=by
 unfold ni at h;by_cases hc:(32:Int)<ls.length
 ·rw[zB0 hc] at h;cases h
 rw[zB1 hc] at h;exact ⟨by omega,fun x hx=>lh (La [] ls h x hx)⟩
def bkO (ls:List Lad):Option (List Lad):=if ni ls=0 then some ls else none
theorem Pc {ls l:List Lad} (h:bkO ls=some l):l.length≤32∧∀ x∈l,x.2.length≤12:=by
 unfold bkO at h;by_cases hc:ni ls=0
 ·rw[zB0 hc] at h;cases h;exact UR hc
 rw[zB1 hc] at h;cases h
theorem Re.same {H H':Hp} {p:AC} {o:Option (List Lad)} (ht:H'.t=H.t) (hn:H'.nx=H.nx) (h:Re H p o):Re H' p o:=by
 obtain ⟨t,nx,l⟩:=H;obtain ⟨t',nx',l'⟩:=H';cases ht;cases hn
 cases o <;> exact h
theorem Np (H:Hp) (v:AC) (ls:List Lad) (hl:fv H v ls):
  Con E2 7 [.one v] H (fun _=>False) fun r H'=>∃ p q,r=.tup [(false,[p]),(false,[q])]∧cQ H' p (bkO ls)∧Re H' q (bkO ls)∧(bkO ls=none→p=.o .nilP):=by
 refine Con.of rfl fun lg=>?_;have hl:fv ⟨H.t,H.nx,lg⟩ v ls:=hl;generalize (⟨H.t,H.nx,lg⟩:Hp)=H at hl ⊢;refine C1.body (E:=E2) (nt:=20) (res:=[.tmp 2,.tmp 3]) Tryz.func7 rfl rfl rfl rfl rfl fun tm A0=>?_;have h0:=A0 0 _ rfl;clear A0;refine qW ae ?_;refine qG (qA ae (qA h0 IL)) fun K hK=>?_;refine WE.con (HZ H v ls hl) fun w H1 g1 ⟨p,hw,U5,P4⟩=>?_;subst hw;refine qT ?_;refine hK _ _ ?_;clear hK K;refine qG (qA ae (qA h0 VH)) fun K hK=>?_;refine WE.con (Qq H1 v ls (hl.gr g1)) fun w H2 g2 ⟨q,hw,T7,P2⟩=>?_;subst hw;refine qT ?_;refine hK _ _ ?_;clear hK K;refine qV ?_;refine ⟨_,_,aM p q (.inr rfl) rfl qp qp,g1.gr g2,fun _=>⟨p,q,rfl,?_,?_,?_⟩⟩
 ·refine cQ.same (H:=H2) rfl rfl ?_;unfold bkO;by_cases hc:ni ls=0
  ·rw[zB0 hc];exact (U5 hc).gr g2
  rw[zB1 hc];exact .inl (P4 hc)
 ·refine Re.same (H:=H2) rfl rfl ?_;unfold bkO;by_cases hc:ni ls=0
  ·rw[zB0 hc];exact T7 hc
  rw[zB1 hc];exact P2 hc
 unfold bkO;by_cases hc:ni ls=0
 ·rw[zB0 hc];intro h;cases h
 exact fun _=>P4 hc
open Go Go.Eng Go.ChangeShapes Go.WideShapes
abbrev Wz:=fw vj (Ch .i64)
abbrev CA:=xE Tryz.prog 165 2 Wz
abbrev YO:=fw vj CA
abbrev Ks:=xE Tryz.prog 97 2 YO
abbrev Cd:=xE Tryz.prog 9 1 vj
abbrev WX:=fw vj (fw vj Cd)
abbrev CW:=xE Tryz.prog 104 3 WX
theorem Ax:jZ CA:=og (bT bS ed)
theorem An:jZ Cd:=og bS
theorem SS {W:World}:Opn Tryz.prog W 2 Wz 165:=dC Tryz.underlying165 (by kernel_rfl) rfl (bP (gK Tryz.underlying9) bS (fJ (lS Tryz.underlying3)))
theorem OM {W:World} (hB:nj W):Opn Tryz.prog W 1 CA 95:=gk Tryz.underlying95 (by kernel_rfl) (by decide) (bT bS ed) hB SS
theorem Wu {W:World} (hB:nj W):Opn Tryz.prog W 2 YO 97:=dC Tryz.underlying97 (by kernel_rfl) rfl (bP (gK Tryz.underlying9) bS (fJ (OM hB)))
theorem PN {W:World} (hB:nj W):Opn Tryz.prog W 1 Ks 22:=gk Tryz.underlying22 (by kernel_rfl) (by decide) (bT bS Ax) hB (Wu hB)
theorem NH {W:World} (hB:nj W):Opn Tryz.prog W 1 Cd 102:=gk Tryz.underlying102 (by kernel_rfl) (by decide) bS hB (gK Tryz.underlying9)
theorem TK {W:World} (hB:nj W):Opn Tryz.prog W 3 WX 104:=dC Tryz.underlying104 (by kernel_rfl) rfl (bP (gK Tryz.underlying9) bS (bP (gK Tryz.underlying9) bS (fJ (NH hB))))
theorem ND {W:World} (hB:nj W):Opn Tryz.prog W 1 CW 23:=gk Tryz.underlying23 (by kernel_rfl) (by decide) (bT bS (bT bS An)) hB (TK hB)
theorem HM:Tryz.prog.bytesOf 9=16:=by kernel_rfl
theorem Cy:Tryz.prog.bytesOf 104=56:=by kernel_rfl
theorem FT:Tryz.prog.bytesOf 97=40:=by kernel_rfl
theorem TW {B:Nat} {H:Hp} {c:List AC} {us:List Pr} (h:CA B H c us):∃ u,c=[u]∧SlP H u us:=by
 obtain ⟨u,rfl,⟨css,h1,h2⟩,_⟩:=h;refine ⟨u,rfl,?_⟩;have:=rA (f:=prC) (h2.mono fun c x ⟨_,c1,c2,e,a,b⟩=>by rw[e,a.1,b.1];rfl);rw[this] at h1;exact h1
theorem GK {B:Nat} {H:Hp} {c:List AC} {us:List (List UInt8)} (h:Cd B H c us):∃ u,c=[u]∧SlS H u us∧us.length*16≤B:=by
 obtain ⟨u,rfl,⟨css,h1,h2⟩,h3⟩:=h;refine ⟨u,rfl,?_,by rwa [HM] at h3⟩;have:=rA (f:=Wp) (h2.mono fun c x ⟨_,e,_⟩=>e);rw[this] at h1;exact h1
theorem VD {B:Nat} {H:Hp} {u:AC} {ls:List Lad} (h:Ks B H [u] ls):fv H u ls∧ls.length*40≤B:=by
 obtain ⟨u,e,⟨css,h1,h2⟩,h3⟩:=h;cases e
 refine ⟨⟨css,h1,h2.mono fun c x ⟨hl,c1,c2,e,a,b⟩=>⟨hl,?_⟩⟩,by rwa [FT] at h3⟩;obtain ⟨u,rfl,hu⟩:=TW b;exact ⟨u,by rw[e,a.1];rfl,hu⟩
theorem Ib {B:Nat} {H:Hp} {u:AC} {gs:List Gd} (h:CW B H [u] gs):SlG H u gs∧gs.length*56≤B∧∀ x∈gs,x.2.2.length*16≤B:=by
 obtain ⟨u,e,⟨css,h1,h2⟩,h3⟩:=h;cases e
 refine ⟨⟨css,h1,h2.mono fun c x ⟨hl,c1,c2,e,a,c3,c4,e2,b,d⟩=>⟨hl,?_⟩⟩,by rwa [Cy] at h3,Al.all (fun c x ⟨hl,c1,c2,e,a,c3,c4,e2,b,d⟩=>?_) h2⟩
 ·obtain ⟨u,rfl,hu,_⟩:=GK d;exact ⟨u,by rw[e,a.1,e2,b.1];rfl,hu⟩
 obtain ⟨u,rfl,_,hu⟩:=GK d;exact hu
open Go.ChangeShapes Go.WideShapes Go.ChangeAt Go.RowKit Go.Eng
theorem oG {H:Type} {enc:TypeId×Value→H} {P:Program} (hl:laidOutB P=true) {W W':World} (hb:Below W.heap.size W W') {sp:Nat→Bool}:∀ {ts:List TypeId} {vs:List Value} {ds:List (DataW H)} {ps:List MemPlace},(∀ t∈ts,P.readableRec t=true∧t<P.types.size) →
  DataW.TrodAll enc P W 0 (fun _=>true) true ts vs ds ps→(∀ p∈ps,p.block<W.heap.size)→(∀ p∈ps,sp p.block=true)→DataW.TrodAll enc P W' 0 sp true ts vs ds ps
 | [],vs,ds,ps,_,h,_,_=>by
  obtain ⟨rfl,rfl,rfl⟩:=trodAll_nil h;exact trodAll_mk0
 | t::ts,vs,ds,ps,hr,h,D0,hsp=>by
  obtain ⟨v,vs1,d,ds1,a,b,rfl,rfl,rfl,h1,h2⟩:=trodAll_cons h;refine ⟨a,b,?_,oG hl hb (fun t ht=>hr t (List.mem_cons_of_mem _ ht)) h2 (fun p hp=>D0 p (List.mem_append_right _ hp)) (fun p hp=>hsp p (List.mem_append_right _ hp)),rfl⟩;exact WideElems.Trod_stays hl (hr t (List.mem_cons_self ..)).1 (hr t (List.mem_cons_self ..)).2 h1 (fun x hx=>hb.same (D0 x (List.mem_append_left _ hx))) (fun x hx=>hsp x (List.mem_append_left _ hx))
theorem Tryz.laidOut:laidOutB Tryz.prog=true:=by kernel_rfl
theorem RE:reachBytes≤140737488355328:=by decide
theorem sB:loadT Tryz.prog 37=some (true,2):=by kernel_rfl
theorem Az:aS Tryz.prog 37=some 2:=by kernel_rfl
theorem AL:(aB Tryz.prog 37).map (fun z=>(ofValue z).cells)=some [.o .nilS,.o .nilS]:=by kernel_rfl
theorem zy:aP Tryz.prog 37=4:=by kernel_rfl
theorem tP:aI Tryz.prog 37 0=some (0,34,1):=by kernel_rfl
theorem tr:aI Tryz.prog 37 1=some (1,35,1):=by kernel_rfl
def sA:Nat→Option (Nat×Nat):=fun i=>(#[(0,1),(1,1)]:Array (Nat×Nat))[i]?
theorem AB:ca Tryz.prog 37=some sA:=by kernel_rfl
theorem tE:sA 0=some (0,1):=rfl
theorem tc:sA 1=some (1,1):=rfl
theorem Gb:loadT Tryz.prog 34=some (false,1):=by kernel_rfl
theorem DV:aS Tryz.prog 34=some 1:=by kernel_rfl
theorem DN:(aB Tryz.prog 34).map (fun z=>(ofValue z).cells)=some [.o .nilS]:=by kernel_rfl
theorem xk:bm Tryz.prog 34=some (84,5):=by kernel_rfl
theorem GM:eu Tryz.prog 34=some 1:=by kernel_rfl
theorem GX:aP Tryz.prog 34=1:=by kernel_rfl
theorem Lf:loadT Tryz.prog 84=some (true,5):=by kernel_rfl
theorem MU:aS Tryz.prog 84=some 5:=by kernel_rfl
theorem Wd:cB Tryz.prog 84=some 88:=by kernel_rfl
theorem Dn:(aB Tryz.prog 84).map (fun z=>(ofValue z).cells)=some [.i .i64 0,.o (.str []),.o (.str []),.o .nilS,.o .nilS]:=by kernel_rfl
theorem Vk:∃ z,aB Tryz.prog 84=some z∧(ofValue z).cells.length=5:=by
 have h:=Dn;cases hz:aB Tryz.prog 84 with
 | none=>rw[hz] at h;cases h
 | some z=>
  rw[hz] at h;exact ⟨z,rfl,by have:(ofValue z).cells=_:=Option.some.inj h;rw[this];rfl⟩
theorem Km:aP Tryz.prog 84=4:=by kernel_rfl
theorem zC:aI Tryz.prog 84 0=some (0,3,1):=by kernel_rfl
theorem yp:aI Tryz.prog 84 1=some (1,9,1):=by kernel_rfl
theorem sd:aI Tryz.prog 84 2=some (2,9,1):=by kernel_rfl
theorem sI:aI Tryz.prog 84 3=some (3,66,2):=by kernel_rfl
def qj:Nat→Option (Nat×Nat):=fun i=>(#[(0,1),(1,1),(2,1),(3,2)]:Array (Nat×Nat))[i]?
theorem Mz:ca Tryz.prog 84=some qj:=by kernel_rfl
theorem ya:qj 0=some (0,1):=rfl
theorem zk:qj 1=some (1,1):=rfl
theorem yx:qj 2=some (2,1):=rfl
theorem yE:qj 3=some (3,2):=rfl
theorem Ek:loadT Tryz.prog 35=some (false,1):=by kernel_rfl
theorem FI:aS Tryz.prog 35=some 1:=by kernel_rfl
theorem EJ:(aB Tryz.prog 35).map (fun z=>(ofValue z).cells)=some [.o .nilS]:=by kernel_rfl
theorem wJ:bm Tryz.prog 35=some (86,2):=by kernel_rfl
theorem HD:eu Tryz.prog 35=some 1:=by kernel_rfl
theorem FM:aP Tryz.prog 35=1:=by kernel_rfl
theorem KP:loadT Tryz.prog 86=some (true,2):=by kernel_rfl
theorem KV:aS Tryz.prog 86=some 2:=by kernel_rfl
theorem UQ:cB Tryz.prog 86=some 32:=by kernel_rfl
theorem CX:(aB Tryz.prog 86).map (fun z=>(ofValue z).cells)=some [.i .i64 0,.o .nilS]:=by kernel_rfl
theorem Uu:∃ z,aB Tryz.prog 86=some z∧(ofValue z).cells.length=2:=by
 have h:=CX;cases hz:aB Tryz.prog 86 with
 | none=>rw[hz] at h;cases h
 | some z=>
  rw[hz] at h;exact ⟨z,rfl,by have:(ofValue z).cells=_:=Option.some.inj h;rw[this];rfl⟩
theorem LN:aP Tryz.prog 86=4:=by kernel_rfl
theorem Am:aI Tryz.prog 86 0=some (0,3,1):=by kernel_rfl
theorem xL:aI Tryz.prog 86 1=some (1,57,1):=by kernel_rfl
def Dl:Nat→Option (Nat×Nat):=fun i=>(#[(0,1),(1,1)]:Array (Nat×Nat))[i]?
theorem Lm:ca Tryz.prog 86=some Dl:=by kernel_rfl
theorem ze:Dl 0=some (0,1):=rfl
theorem yo:Dl 1=some (1,1):=rfl
theorem uC:loadT Tryz.prog 66=some (true,2):=by kernel_rfl
theorem BY:aS Tryz.prog 66=some 2:=by kernel_rfl
theorem CT:(aB Tryz.prog 66).map (fun z=>(ofValue z).cells)=some [.o .nilS,.o .nilS]:=by kernel_rfl
theorem PU:aP Tryz.prog 66=4:=by kernel_rfl
theorem cF:aI Tryz.prog 66 0=some (0,64,1):=by kernel_rfl
theorem dN:aI Tryz.prog 66 1=some (1,64,1):=by kernel_rfl
def Jm:Nat→Option (Nat×Nat):=fun i=>(#[(0,1),(1,1)]:Array (Nat×Nat))[i]?
theorem Bm:ca Tryz.prog 66=some Jm:=by kernel_rfl
theorem rm:Jm 0=some (0,1):=rfl
theorem qO:Jm 1=some (1,1):=rfl
theorem cP:loadT Tryz.prog 64=some (false,1):=by kernel_rfl
theorem KA:aS Tryz.prog 64=some 1:=by kernel_rfl
theorem KM:(aB Tryz.prog 64).map (fun z=>(ofValue z).cells)=some [.o .nilS]:=by kernel_rfl
theorem iG:bm Tryz.prog 64=some (181,3):=by kernel_rfl
theorem dY:eu Tryz.prog 64=some 1:=by kernel_rfl
theorem uv:aP Tryz.prog 64=1:=by kernel_rfl
theorem iu:loadT Tryz.prog 181=some (true,3):=by kernel_rfl
theorem sj:aS Tryz.prog 181=some 3:=by kernel_rfl
theorem Xj:cB Tryz.prog 181=some 32:=by kernel_rfl
theorem nC:(aB Tryz.prog 181).map (fun z=>(ofValue z).cells)=some [.i .i64 0,.o (.str []),.b false]:=by kernel_rfl
theorem XX:∃ z,aB Tryz.prog 181=some z∧(ofValue z).cells.length=3:=by
 have h:=nC;cases hz:aB Tryz.prog 181 with
 | none=>rw[hz] at h;cases h
 | some z=>
  rw[hz] at h;exact ⟨z,rfl,by have:(ofValue z).cells=_:=Option.some.inj h;rw[this];rfl⟩
theorem RI:aP Tryz.prog 181=4:=by kernel_rfl
theorem iT:aI Tryz.prog 181 0=some (0,3,1):=by kernel_rfl
theorem kh:aI Tryz.prog 181 1=some (1,9,1):=by kernel_rfl
theorem mP:aI Tryz.prog 181 2=some (2,4,1):=by kernel_rfl
def Dg:Nat→Option (Nat×Nat):=fun i=>(#[(0,1),(1,1),(2,1)]:Array (Nat×Nat))[i]?
theorem JJ:ca Tryz.prog 181=some Dg:=by kernel_rfl
theorem EI:Dg 0=some (0,1):=rfl
theorem FA:Dg 1=some (1,1):=rfl
theorem Ho:Dg 2=some (2,1):=rfl
theorem Ff:loadT Tryz.prog 238=some (false,1):=by kernel_rfl
theorem EZ:aS Tryz.prog 238=some 1:=by kernel_rfl
theorem Ep:(aB Tryz.prog 238).map (fun z=>(ofValue z).cells)=some [.o .nilS]:=by kernel_rfl
theorem Gu:bm Tryz.prog 238=some (4,1):=by kernel_rfl
theorem DD:eu Tryz.prog 238=some 1:=by kernel_rfl
theorem GG:aP Tryz.prog 238=1:=by kernel_rfl
theorem XG:eqK Tryz.prog 181=some [.i,.s,.b]:=by kernel_rfl
end Go.Proofs.YtnhbkodnmkojpaaGreat
end

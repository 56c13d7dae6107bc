/- A part of the proof: BkTb1, BkTb2, BkTb3, BkTb4, BkTb5, BkTb6, BkTb7, BkTb8, BkTb9, BkTb10, BkTb11, BkTb12, BkTb13. No conditions. -/
import Derived.Test.YtnhbkodnmkojpaaGreatSAm
set_option maxRecDepth 100000
set_option maxHeartbeats 64000000
set_option linter.unusedVariables false
set_option linter.unusedSimpArgs false
noncomputable section
namespace Go.Proofs.YtnhbkodnmkojpaaGreat
open Go Go.Eng
structure Cs where
 face:Int
 col:Int
 line:Int
 kind:Int
 num:Nm
 good:List UInt8
 ws:List Pr
def CsR (H:Hp) (c:List AC) (x:Cs):Prop:=∃ p q w,c=[.i .i64 x.face,.i .i64 x.col,.i .i64 x.line,.i .i64 x.kind,p,q,.o (.str x.good),w]∧bB H p x.num.1∧bB H q x.num.2∧SlP H w x.ws
theorem CsR.gr {H H':Hp} {c:List AC} {x:Cs} (h:CsR H c x) (hg:Gr H H'):CsR H' c x:=let ⟨p,q,w,h1,h2,h3,h4⟩:=h;⟨p,q,w,h1,h2.gr hg,h3.gr hg,h4.gr hg⟩
theorem rp {a b d e:Int} {s:List UInt8} {p q w:AC}:jB [.i .i64 a,.i .i64 b,.i .i64 d,.i .i64 e,p,q,.o (.str s),w]=(AV.one p).ids++((AV.one q).ids++(AV.one w).ids):=by
 simp only[sO,wZ,Pq,KU,List.nil_append,List.append_nil]
theorem dk:FrR CsR:=fun Y H H' c x ⟨p,q,w,h1,h2,h3,h4⟩ hf hi=>by
 subst h1;rw[rp] at hi;exact ⟨p,q,w,rfl,SlC.fr h2 hf fun i h=>hi i (List.mem_append_left _ h),SlC.fr h3 hf fun i h=>hi i (List.mem_append_right _ (List.mem_append_left _ h)),SlC.fr h4 hf fun i h=>hi i (List.mem_append_right _ (List.mem_append_right _ h))⟩
theorem dG:LtR CsR:=fun H c x ⟨p,q,w,h1,h2,h3,h4⟩ i hi=>by
 subst h1;rw[rp] at hi;rcases List.mem_append.1 hi with h|h
 ·exact h2.lt i h
 rcases List.mem_append.1 h with h|h
 ·exact h3.lt i h
 exact h4.lt i h
def dg (H:Hp) (v:AC) (l:List Cs):Prop:=SlR CsR 8 H v l
theorem dg.gr {H H':Hp} {v:AC} {l:List Cs} (h:dg H v l) (hg:Gr H H'):dg H' v l:=SlR.dp h hg.nx (fun i hi=>hg.get i hi zB2) fun _ _ h=>h.gr hg
theorem dg.len {H:Hp} {v:AC} {l:List Cs} (h:dg H v l):cG H 1 (.one v)=.val (.one (.i .i64 (l.length:Int))) H:=SlR.len h
theorem dg.lt {H:Hp} {v:AC} {l:List Cs} (h:dg H v l):ltV (.one v) H.nx:=SlR.lt h
structure CsAt (H:Hp) (cells:List AC) (o:Nat) (x:Cs) (p q w:AC):Prop where
 of1:bB H p x.num.1
 of2:bB H q x.num.2
 of3:SlP H w x.ws
 all:(cells.drop o).take 8=[.i .i64 x.face,.i .i64 x.col,.i .i64 x.line,.i .i64 x.kind,p,q,.o (.str x.good),w]
 le:o+8≤cells.length
 f0:(cells.drop o).headD (.b false)=.i .i64 x.face
 f1:(cells.drop (o+1)).headD (.b false)=.i .i64 x.col
 f2:(cells.drop (o+2)).headD (.b false)=.i .i64 x.line
 f3:(cells.drop (o+3)).headD (.b false)=.i .i64 x.kind
 f4:(cells.drop (o+4)).take 2=[p,q]
 f6:(cells.drop (o+6)).headD (.b false)=.o (.str x.good)
 f7:(cells.drop (o+7)).headD (.b false)=w
theorem YT {cells:List AC} {o:Nat} {a b c d e f g h:AC} (hh:(cells.drop o).take 8=[a,b,c,d,e,f,g,h]):(cells.drop o).headD (.b false)=a∧(cells.drop (o+1)).headD (.b false)=b∧(cells.drop (o+2)).headD (.b false)=c∧(cells.drop (o+3)).headD (.b false)=d∧(cells.drop (o+4)).take 2=[e,f]∧(cells.drop (o+6)).headD (.b false)=g∧(cells.drop (o+7)).headD (.b false)=h:=by
 rw[←List.drop_drop,←List.drop_drop,←List.drop_drop,←List.drop_drop,←List.drop_drop,←List.drop_drop];match hd:cells.drop o,hh with
 | x0::x1::x2::x3::x4::x5::x6::x7::r,hh=>
  simp only[List.take_succ_cons,List.take_zero,List.cons.injEq,and_true] at hh;obtain ⟨rfl,rfl,rfl,rfl,rfl,rfl,rfl,rfl⟩:=hh;exact ⟨rfl,rfl,rfl,rfl,rfl,rfl,rfl⟩
theorem dg.open {H:Hp} {v:AC} {l:List Cs} (h:dg H v l) (hn:0<l.length):∃ id g off cells,v=.o (.sl id g off l.length 8)∧id<H.nx∧rowOf (H.get id) g=some cells∧∀ (i:Nat) (x:Cs),l[i]?=some x→∃ p q w,CsAt H cells (off+i*8) x p q w:=by
 obtain ⟨id,g,off,cells,h1,h2,h3,h4⟩:=SlR.open h hn;refine ⟨id,g,off,cells,h1,h2,h3,fun i x hx=>?_⟩;obtain ⟨h5,c,h6,h7,p,q,w,rfl,h8,h9,h10⟩:=h4 i x hx;obtain ⟨d0,d1,d2,d3,d4,d6,d7⟩:=YT h6;exact ⟨p,q,w,h8,h9,h10,h6,h5,d0,d1,d2,d3,d4,d6,d7⟩
abbrev Tb:=List UInt8×List Cs
structure TbB (l:List Cs):Prop where
 c:l.length*120≤140737488355328
 n:∀ x∈l,x.num.1.length*32≤140737488355328∧x.num.2.length*32≤140737488355328
 w:∀ x∈l,x.ws.length*24≤140737488355328
theorem TbB.take {l:List Cs} (h:TbB l) (i:Nat):TbB (l.take i):=
 ⟨by have:=h.c;rw[List.length_take];omega,fun x hx=>h.n x (List.mem_of_mem_take hx),fun x hx=>h.w x (List.mem_of_mem_take hx)⟩
theorem TbB.drop {l:List Cs} (h:TbB l) (i:Nat):TbB (l.drop i):=
 ⟨by have:=h.c;rw[List.length_drop];omega,fun x hx=>h.n x (List.mem_of_mem_drop hx),fun x hx=>h.w x (List.mem_of_mem_drop hx)⟩
theorem cE {E:Env} {res:List ResultVar} {l:List (Bool×List AC)} {A:ab} {H H2:Hp} {e:ax} (he:e=.normal∨e=.ret) (hd:closeAll H A.dfr=some H2) (h:bh E.P res A.tm H2=some l):aC E res (e,A,H)=.ok [(cT l,H2)]:=by
 have key:(ay (closeAll H A.dfr) (R.bad "marks") fun h2=>ay (bh E.P res A.tm h2) (.bad "results") fun l=>.ok [(cT l,h2)])=.ok [(cT l,H2)]:=by
  rw[hd];show ay (bh E.P res A.tm H2) (R.bad "results") (fun l=>R.ok [(cT l,H2)])=_
  rw[h];rfl
 rcases he with rfl|rfl
 ·exact key
 exact key
theorem Jl {P:Program} {tm:PT AV} {H:Hp}:bh P [] tm H=some []:=rfl
theorem BT {P:Program} {A:ab} {H:Hp} {t:Tmp} {c:AC} {rest:List ResultVar} {l:List (Bool×List AC)} (hs:slot A.tm t=.one c) (h:bh P rest A.tm H=some l):bh P (.tmp t::rest) A.tm H=some ((false,[c])::l):=by
 show ay (ay (A.tm.get t) none fB) none (fun x=>ay (bh P rest A.tm H) none fun l=>some (x::l))=_;rw[tY hs,h];rfl
theorem qN {P:Program} {A:ab} {H:Hp} {s:Tmp} {t:TypeId} {n id g lim:Nat} {cells:List AC} {rest:List ResultVar} {l:List (Bool×List AC)} (ht:loadT P t=some (true,n)) (hs:slot A.tm s=.one (.o (.ptr id g 0 lim))) (hg:rowOf (H.get id) g=some cells) (hl:n≤lim) (ho:cells.length=n)
  (h:bh P rest A.tm H=some l):bh P (.cell s t::rest) A.tm H=some ((true,cells)::l):=by
 have e1:jy P (.cell s t) A.tm H=some (true,cells):=by
  have e0:jy P (.cell s t)=match loadT P t with
    | some p=>fun tm h=>ay (tm.get s) none fun v=>ad.rec (motive:=fun _=>Option (Bool×List AC)) (fun v _=>fB v) (fun _=>none) (fun _ _=>none) (fun _ _=>none) (fun _=>none) (bR h p.1 p.2 v)
    | none=>fun _ _=>none:=rfl
  rw[e0,ht];show ay (A.tm.get s) none (fun v=>ad.rec (motive:=fun _=>Option (Bool×List AC)) (fun v _=>fB v) (fun _=>none) (fun _ _=>none) (fun _ _=>none) (fun _=>none) (bR H true n v))=_;rw[tY hs];show ad.rec (motive:=fun _=>Option (Bool×List AC)) (fun v _=>fB v) (fun _=>none) (fun _ _=>none) (fun _ _=>none) (fun _=>none) (bR H true n (.one (.o (.ptr id g 0 lim))))=_;rw[fi,hg,pJ hl (by omega),List.drop_zero,List.take_of_length_le (by omega)];rfl
 show ay (jy P (.cell s t) A.tm H) none (fun x=>ay (bh P rest A.tm H) none fun l=>some (x::l))=_;rw[e1,h];rfl
theorem Nd {c:List AC} {e:TypeId}:rowOf (some (.arr c e 0 0)) 0=some c:=cy (zA1 _) (zA1 _)
def tF (x:Pr):Bool:=if x.2=1∨x.2=2∨x.2=3 then nmB x.1 else if x.2=4∨x.2=5 then lEq x.1 [] else false
def UT (acc:List Pr):Bool:=acc.getLast?.any fun y=>y.2==5
def goW:List Pr→List Pr→Int
 | _,[]=>0
 | acc,x::l=>if tF x=false then 42 else if x.2=5∧UT acc=true then 42 else goW (acc++[x]) l
def ga (l:List Pr):Int:=if (16:Int)<l.length then 42 else goW [] l
theorem Kt:∀ (acc l:List Pr),goW acc l=0∨goW acc l=42
 | _,[]=>.inl rfl
 | acc,x::l=>by
  unfold goW;split
  ·exact .inr rfl
  split
  ·exact .inr rfl
  exact Kt _ l
theorem It (l:List Pr):ga l=0∨ga l=42:=by
 unfold ga;split
 ·exact .inr rfl
 exact Kt _ _
def eV (c:Cs):Bool:=
 if c.face<1∨6<c.face∨c.col<1∨12<c.col∨c.line<1∨99<c.line then false else
 if c.kind=4 then (decide (c.num.1.length=0)&&(decide (c.num.2.length=0)&&lEq c.good [])) else
 if c.kind=1∨c.kind=2∨c.kind=3 then (decide (fl c.num=0)&&(lEq c.good []||nmB c.good)) else false
def oz (a b:Cs):Bool:=if b.face=a.face then (if b.col=a.col then decide (a.line<b.line) else decide (a.col<b.col)) else decide (a.face<b.face)
def eW (acc:List Cs) (c:Cs):Int:=
 if eV c=false then 41 else if ga c.ws≠0 then 42 else if acc.getLast?.any (fun y=>!oz y c)=true then 43 else 0
def goT:List Cs→List Cs→Int
 | _,[]=>0
 | acc,c::l=>if eW acc c≠0 then eW acc c else goT (acc++[c]) l
def gM (t:Tb):Int:=if nmB t.1=false then 40 else if (256:Int)<t.2.length then 3 else goT [] t.2
theorem CC {v:AV} {a b:Nat} (h:ltV v a) (F4:a≤b):ltV v b:=fun i hi=>zA0 (h i hi) F4
theorem OQ {α:Type} {l:List α} {i:Nat} {y:α} (hi:0<i) (hy:l[i - 1]?=some y):(l.take i).getLast?=some y:=by
 have D0:=(List.getElem?_eq_some_iff.1 hy).1;rw[List.getLast?_eq_getElem?,List.length_take,Nat.min_eq_left (by omega),List.getElem?_take,zB0 (by omega)];exact hy
theorem rE:al Tryz.prog 193=true:=by kernel_rfl
theorem xq (H:Hp) (s:List UInt8) (k:Int):Con E2 193 [.agg [.o (.str s),.i .i64 k]] H (fun _=>False) fun r _=>r=.one (.b (tF (s,k))):=by
 refine Con.of rfl fun lg=>?_;generalize (⟨H.t,H.nx,lg⟩:Hp)=H at ⊢;refine C1.body (E:=E2) (nt:=18) (res:=[.tmp 2]) Tryz.func193 rfl rfl rfl rfl rfl fun tm A0=>?_;have h0:=A0 0 _ rfl;clear A0;have fin:∀ (e:Bool) (A:ab) (H3:Hp),slot A.tm 2=.one (.b e)→A.dfr=[]→Gr H H3→e=tF (s,k)→∃ w H4,aC E2 [.tmp 2] (.ret,A,H3)=.ok [(w,H4)]∧Gr H H4∧∀ _:List Nat,w=.one (.b (tF (s,k))):=fun e A H3 h1 h2 h3 h4=>⟨_,H3,ai (.b e) (.inr rfl) h2 h1,h3,fun _=>by rw[h4]⟩;generalize E0:tF (s,k)=r0 at fin;have c123:k=1∨k=2∨k=3→nmB s=r0:=fun h=>by rw[←E0];exact (zB0 h).symm
 have c45:k=4∨k=5→lEq s []=r0:=fun h=>by
  rw[←E0];unfold tF;rw[zB1 (by show ¬(k=1∨k=2∨k=3);omega),zB0 (by show k=4∨k=5;exact h)]
 have c0:¬(k=1∨k=2∨k=3)→¬(k=4∨k=5)→false=r0:=fun h h'=>by
  rw[←E0];unfold tF;rw[zB1 (by show ¬(k=1∨k=2∨k=3);exact h),zB1 (by show ¬(k=4∨k=5);exact h')]
 replace c123:Hd _:=c123;replace c45:Hd _:=c45;replace c0:Hd _:=c0;clear E0;refine zG tyF fun K hK=>?_;refine hK.out _ _ ?_;refine R1.gen (fun A1 H1=>Gr H H1∧H.nx<H1.nx∧H1.get H.nx=some (.arr [.o (.str s),.i .i64 k] 185 0 0)∧slot A1.tm 1=.one ((.o (.ptr H.nx 0 0 2)))∧A1.nt=18∧A1.dfr=[])
  ⟨(Fr.refl _).new _,zA6 _,aG rfl,zL⟩ ?_
 clear h0 tm hK K;rintro A1 H1 ⟨g1,m1,rx,t1,B0,C0⟩;obtain ⟨N,hN⟩:∃ N,N=H.nx:=⟨_,rfl⟩;rw[←hN] at m1 rx t1;clear hN;have name:Hd (∀ (A:ab) (h123:k=1∨k=2∨k=3),slot A.tm 1=.one ((.o (.ptr N 0 0 2)))∧A.nt=18∧A.dfr=[]→True):=fun _ _ _=>trivial;clear name;by_cases q1:k=1∨k=2∨k=3
 ·have hn:=c123.out q1;replace hn:Hd _:=hn;clear c123 c45 c0;rcases q1 with rfl|rfl|rfl <;>
  ·refine zW tyF ?_;refine R1.dS fun K2 p1 p2 p3 p4=>?_;refine zW tyF ?_;refine zG (qA tyF eG) fun K hK=>?_;refine WE.con (pz (X:=fun _=>False) s _) fun w H2 g2 hq=>?_;subst hq;refine zK tyF ?_;exact p4.out _ _ (fin (nmB s) _ _ qp qe (g1.gr g2) (hn.out))
 by_cases q2:k=4∨k=5
 ·have hn:=c45.out q2;replace hn:Hd _:=hn;clear c123 c45 c0 q1;rcases q2 with rfl|rfl <;>
  ·refine zW tyF ?_;refine R1.dS fun K2 p1 p2 p3 p4=>?_;refine zW tyF ?_;exact p4.out _ _ (fin (lEq s []) _ _ qp qe (g1) (hn.out))
 have hn:=c0.out q1 q2;have e1:(k==1)=false:=zB5 (by omega);have e2:(k==2)=false:=zB5 (by omega);have e3:(k==3)=false:=zB5 (by omega);have e4:(k==4)=false:=zB5 (by omega);have e5:(k==5)=false:=zB5 (by omega);replace hn:Hd _:=hn;clear c123 c45 c0 q1 q2;refine zW tyF ?_;refine R1.dS fun K2 p1 p2 p3 p4=>?_;refine zW tyF ?_;refine p1.out _ _ ?_;refine zW tyF ?_;exact fin (false) _ _ qp qe (g1) (hn.out)
theorem wP (H:Hp) (v:AC) (l:List Pr) (hv:SlP H v l) (hL:l.length≤4611686018427387904):Con E2 164 [.one v] H (fun _=>False) fun r _=>r=.one (.i .i64 (ga l)):=by
 refine Con.of rfl fun lg=>?_;have hv:SlP ⟨H.t,H.nx,lg⟩ v l:=hv;generalize (⟨H.t,H.nx,lg⟩:Hp)=H at hv ⊢;refine C1.body (E:=E2) (nt:=37) (res:=[.tmp 2]) Tryz.func164 rfl rfl rfl rfl rfl fun tm A0=>?_;have h0:=A0 0 _ rfl;clear A0;have fin:∀ (e:Int) (A:ab) (H3:Hp),slot A.tm 2=.one (.i .i64 e)→A.dfr=[]→Gr H H3→e=ga l→∃ w H4,aC E2 [.tmp 2] (.ret,A,H3)=.ok [(w,H4)]∧Gr H H4∧∀ _:List Nat,w=.one (.i .i64 (ga l)):=fun e A H3 h1 h2 h3 h4=>⟨_,H3,ai (.i .i64 e) (.inr rfl) h2 h1,h3,fun _=>by rw[h4]⟩;generalize E0:ga l=r0 at fin;have l1:=hv.len;have l2:=hv.lt;by_cases q1:(16:Int)<l.length
 ·have hn:42=r0:=by rw[←E0];exact (zB0 q1).symm
  replace hn:Hd _:=hn;clear E0;refine zW tyF ?_;exact fin (42) _ _ qp qe (Fr.refl _) (hn.out)
 have hn:Hd (goW [] l=r0):=by rw[←E0];exact (zB1 q1).symm
 clear E0;refine zW tyF ?_;refine R1.dS fun K k1 k2 k3 k4=>?_;refine R1.loop (fun z A H3=>∃ i:Nat,z=l.length - i∧i≤l.length∧Gr H H3∧Hd (goW (l.take i) (l.drop i)=r0)∧slot A.tm 0=.one (v)∧slot A.tm 8=.one (v)∧slot A.tm 9=.one (.i .i64 (l.length:Int))∧slot A.tm 10=.one (.i .i64 (i:Int))∧A.nt=37∧A.dfr=[]) ?_ l.length
  ⟨0,rfl,Nat.zero_le _,Fr.refl _,hn,zL⟩
 clear h0 hn tm l1 l2 k3;rintro z A H3 ⟨i,rfl,hi,g3,hr,t0,t8,t9,t10,B0,C0⟩;have F6:=hv.gr g3;refine zW tyF ?_;refine zI tyF (fun hc=>?_) (fun hc=>?_)
 ·have D0:i<l.length:=by omega
  have ex:=zB4 D0;have Z0:=zC1 D0;have U2:=zC2 D0;have N0:l[i]∈l:=List.getElem_mem D0;generalize l[i]=x at ex Z0 U2 N0;have J1:=zC0 i (by omega);obtain ⟨id,g,off,cells,rfl,hid,T0,O0⟩:=F6.open (by omega);have V0:=O0 i x ex;obtain ⟨s,k⟩:=x;have y1:(cells.drop (off+i*2)).take 2=[.o (.str s),.i .i64 k]:=V0.all;have y2:=V0.le;have F0:=hr.out;rw[Z0,goW] at F0;clear V0 N0 Z0 hr;rw[U2.symm] at F0;replace F0:Hd _:=F0;refine zW tyF ?_;refine R1.dS fun K2 p1 p2 p3 p4=>?_;refine zG (qA tyF (ixC D0)) fun K3 Y4=>?_;refine Y4.out _ _ ?_;refine R1.gen (fun A4 H4=>Gr H3 H4∧H3.nx<H4.nx∧H4.get H3.nx=some (.arr [.o (.str s),.i .i64 k] 185 0 0)∧slot A4.tm 0=.one ((.o (.sl id g off l.length 2)))∧slot A4.tm 3=.one (.i .i64 (i:Int))∧slot A4.tm 4=.one ((.o (.ptr H3.nx 0 0 2)))∧slot A4.tm 8=.one ((.o (.sl id g off l.length 2)))∧slot A4.tm 9=.one (.i .i64 (l.length:Int))∧slot A4.tm 10=.one (.i .i64 (i:Int))∧A4.nt=37∧A4.dfr=[])
   ⟨((Fr.refl _).new _).mod _ (.inl (zA1 _)),zA6 _,aj rfl,zL⟩ ?_
  clear t0 t8 t9 t10 B0 C0 A y1 y2 Y4 K3;rintro A H4 ⟨g4,m1,rx,t0,t3,t4,t8,t9,t10,B0,C0⟩;obtain ⟨N,hN⟩:∃ N,N=H3.nx:=⟨_,rfl⟩;rw[←hN] at m1 rx t4;clear hN;have hgr4:rowOf (H4.get id) g=some cells:=by rw[g4.get _ hid zB2];exact T0
  have S3:id<H4.nx:=zA0 hid g4.nx;have g14:=g3.gr g4;clear T0 hid F6 g4 g3;refine zG (qA tyF rE) fun K3 Y4=>?_;refine WE.con (xq H4 s k) fun w H5 g5 hq=>?_;subst hq;have rx:=(g5.get _ m1 zB2).trans rx;have m1:=zA0 m1 g5.nx;have hgr5:rowOf (H5.get id) g=some cells:=by rw[g5.get _ S3 zB2];exact hgr4
  have O9:id<H5.nx:=zA0 S3 g5.nx;have g15:=g14.gr g5;clear hgr4 S3 g14 g5;cases e1:tF (s,k) with
  | false=>
   have hn:42=r0:=by rw[←F0.out];exact (zB0 e1).symm
   replace hn:Hd _:=hn;clear F0;refine zK (qA tyF rE) ?_;exact p4.out _ _ (k4.out _ _ (fin (42) _ _ qp qe (g15) (hn.out)))
  | true=>
   have I0:=F0.out;rw[zB1 (by rw[e1];decide)] at I0;replace I0:Hd _:=I0;clear F0;have go:Hd (∀ (A:ab),slot A.tm 0=.one ((.o (.sl id g off l.length 2)))∧slot A.tm 8=.one ((.o (.sl id g off l.length 2)))∧slot A.tm 9=.one (.i .i64 (l.length:Int))∧slot A.tm 10=.one (.i .i64 (i:Int))∧A.nt=37∧A.dfr=[]→goW (l.take (i+1)) (l.drop (i+1))=r0→K2 .normal A H5):=by
    clear t0 t3 t4 t8 t9 t10 B0 C0 Y4 I0;rintro A ⟨t0,t8,t9,t10,B0,C0⟩ P3;replace P3:Hd _:=P3;refine p1.out _ _ ?_;refine zW tyF ?_;exact ⟨l.length - (i+1),by omega,i+1,rfl,D0,g15,P3,zL⟩
   by_cases q5:k=5
   ·subst q5;by_cases q0:0<i
    ·have u6:i - 1<l.length:=by omega
     have ey:l[i - 1]?=some l[i - 1]:=zB4 u6;have C2:=O0 (i - 1) _ ey;have hgw:UT (l.take i)=(l[i - 1].2==5):=by
      unfold UT;rw[OQ q0 ey];rfl
     generalize l[i - 1]=y at ey C2 hgw;have z1:(cells.drop (off+(i - 1)*2+1)).headD (.b false)=.i .i64 y.2:=C2.snd;have z2:=C2.le2;have D4:IntKind.i64.wrap ((i:Int) - 1)=((i - 1:Nat):Int):=by rw[au (by omega) (by omega)];omega
     have e0:(0:Int)<(i:Int):=by omega
     clear C2 O0 ex ey;cases e5:(y.2==5) with
     | true=>
      have hn:42=r0:=by rw[←I0.out];exact (zB0 ⟨rfl,hgw.trans e5⟩).symm
      replace hn:Hd _:=hn;replace hgw:Hd _:=hgw;clear I0 go;refine zK (qA tyF (ixC u6)) ?_;exact p4.out _ _ (k4.out _ _ (fin (42) _ _ qp qe (g15) (hn.out)))
     | false=>
      have hn:goW (l.take (i+1)) (l.drop (i+1))=r0:=by rw[←I0.out];exact (zB1 (fun h=>by rw[hgw,e5] at h;exact absurd h.2 (by decide))).symm
      replace hn:Hd _:=hn;replace hgw:Hd _:=hgw;clear I0;refine zK (qA tyF (ixC u6)) ?_;exact go.out _ zL hn.out
    have T3:i=0:=by omega
    subst T3;have hn:goW (l.take (0+1)) (l.drop (0+1))=r0:=by rw[←I0.out];exact (zB1 (fun h=>by have h2:UT (l.take 0)=true:=h.2;rw[List.take_zero] at h2;exact absurd h2 (by decide))).symm
    replace hn:Hd _:=hn;clear I0 O0 ex;refine zK tyF ?_;exact go.out _ zL hn.out
   have e5:(k==5)=false:=zB5 q5;have hn:goW (l.take (i+1)) (l.drop (i+1))=r0:=by rw[←I0.out];exact (zB1 (fun h=>q5 h.1)).symm
   replace hn:Hd _:=hn;clear I0 q5 O0 ex;refine zK tyF ?_;exact go.out _ zL hn.out
 have he:i=l.length:=by omega
 subst he;have hn:=hr.out;rw[List.drop_length,goW] at hn;replace hn:Hd _:=hn;clear hr;refine zW tyF ?_;refine k2.out _ _ ?_;refine zW tyF ?_;exact fin (0) _ _ qp qe (g3) (hn.out)
theorem xB (H:Hp) (f cl ln k:Int) (nm:Nm) (gd:List UInt8) (ws:List Pr) (p q w:AC) (hp:bB H p nm.1) (hq:bB H q nm.2) (hw:SlP H w ws):
  Con E2 163 [.agg [.i .i64 f,.i .i64 cl,.i .i64 ln,.i .i64 k,p,q,.o (.str gd),w]] H (fun _=>False) fun r _=>r=.one (.b (eV ⟨f,cl,ln,k,nm,gd,ws⟩)):=by
 refine Con.of rfl fun lg=>?_;have hp:bB ⟨H.t,H.nx,lg⟩ p nm.1:=hp;have hq:bB ⟨H.t,H.nx,lg⟩ q nm.2:=hq;have hw:SlP ⟨H.t,H.nx,lg⟩ w ws:=hw;generalize (⟨H.t,H.nx,lg⟩:Hp)=H at hp hq hw ⊢;refine C1.body (E:=E2) (nt:=70) (res:=[.tmp 2]) Tryz.func163 rfl rfl rfl rfl rfl fun tm A0=>?_;have h0:=A0 0 _ rfl;clear A0;have fin:∀ (e:Bool) (A:ab) (H3:Hp),slot A.tm 2=.one (.b e)→A.dfr=[]→Gr H H3→e=eV ⟨f,cl,ln,k,nm,gd,ws⟩→∃ w H4,aC E2 [.tmp 2] (.ret,A,H3)=.ok [(w,H4)]∧Gr H H4∧∀ _:List Nat,w=.one (.b (eV ⟨f,cl,ln,k,nm,gd,ws⟩)):=fun e A H3 h1 h2 h3 h4=>⟨_,H3,ai (.b e) (.inr rfl) h2 h1,h3,fun _=>by rw[h4]⟩;generalize E0:eV ⟨f,cl,ln,k,nm,gd,ws⟩=r0 at fin;have lp:=hp.lt;have lq:=hq.lt;have lw:=hw.lt;refine zG tyF fun K hK=>?_;refine hK.out _ _ ?_;refine R1.gen (fun A1 H1=>Gr H H1∧H.nx<H1.nx∧H1.get H.nx=some (.arr [.i .i64 f,.i .i64 cl,.i .i64 ln,.i .i64 k,p,q,.o (.str gd),w] 69 0 0)∧slot A1.tm 1=.one ((.o (.ptr H.nx 0 0 8)))∧A1.nt=70∧A1.dfr=[])
  ⟨(Fr.refl _).new _,zA6 _,aG rfl,zL⟩ ?_
 clear h0 tm hK K lp lq lw;rintro A1 H1 ⟨g1,m1,rx,t1,B0,C0⟩;obtain ⟨N,hN⟩:∃ N,N=H.nx:=⟨_,rfl⟩;rw[←hN] at m1 rx t1;clear hN;have hp:=hp.gr g1;have hq:=hq.gr g1;have hw:=hw.gr g1;replace E0:Hd _:=E0;by_cases h1:f<1
 ·have hn:false=r0:=by
   rw[←E0.out];exact (zB0 (by show f<1∨6<f∨cl<1∨12<cl∨ln<1∨99<ln;omega)).symm
  replace hn:Hd _:=hn;clear E0;refine zW tyF ?_;exact fin (false) _ _ qp qe (g1) (hn.out)
 by_cases h2:6<f
 ·have hn:false=r0:=by
   rw[←E0.out];exact (zB0 (by show f<1∨6<f∨cl<1∨12<cl∨ln<1∨99<ln;omega)).symm
  replace hn:Hd _:=hn;clear E0;refine zW tyF ?_;exact fin (false) _ _ qp qe (g1) (hn.out)
 by_cases h3:cl<1
 ·have hn:false=r0:=by
   rw[←E0.out];exact (zB0 (by show f<1∨6<f∨cl<1∨12<cl∨ln<1∨99<ln;omega)).symm
  replace hn:Hd _:=hn;clear E0;refine zW tyF ?_;exact fin (false) _ _ qp qe (g1) (hn.out)
 by_cases h4:12<cl
 ·have hn:false=r0:=by
   rw[←E0.out];exact (zB0 (by show f<1∨6<f∨cl<1∨12<cl∨ln<1∨99<ln;omega)).symm
  replace hn:Hd _:=hn;clear E0;refine zW tyF ?_;exact fin (false) _ _ qp qe (g1) (hn.out)
 by_cases h5:ln<1
 ·have hn:false=r0:=by
   rw[←E0.out];exact (zB0 (by show f<1∨6<f∨cl<1∨12<cl∨ln<1∨99<ln;omega)).symm
  replace hn:Hd _:=hn;clear E0;refine zW tyF ?_;exact fin (false) _ _ qp qe (g1) (hn.out)
 by_cases h6:99<ln
 ·have hn:false=r0:=by
   rw[←E0.out];exact (zB0 (by show f<1∨6<f∨cl<1∨12<cl∨ln<1∨99<ln;omega)).symm
  replace hn:Hd _:=hn;clear E0;refine zW tyF ?_;exact fin (false) _ _ qp qe (g1) (hn.out)
 have hr:=E0.out;unfold eV at hr;rw[zB1 (by show ¬(f<1∨6<f∨cl<1∨12<cl∨ln<1∨99<ln);omega)] at hr;clear E0;have lp:=hp.len;have lq:=hq.len;have lp2:=hp.lt;have lq2:=hq.lt;have lw2:=hw.lt;by_cases q4:k=4
 ·rw[zB0 (by exact q4)] at hr;subst q4;cases e1:decide (nm.1.length=0) with
  | false=>
   have hn:false=r0:=by rw[←hr];exact (by rw[show (decide ((⟨f,cl,ln,4,nm,gd,ws⟩:Cs).num.1.length=0))=false from e1];rfl)
   have z1:((nm.1.length:Int)==0)=false:=zB5 (fun h=>by rw[decide_eq_false_iff_not] at e1;omega);replace hn:Hd _:=hn;clear hr e1;refine zW tyF ?_;refine R1.dS fun K2 p1 p2 p3 p4=>?_;refine zW tyF ?_;exact p4.out _ _ (fin (false) _ _ qp qe (g1) (hn.out))
  | true=>
   have z1:((nm.1.length:Int)==0)=true:=by rw[decide_eq_true_eq] at e1;rw[beq_iff_eq];omega
   cases e2:decide (nm.2.length=0) with
   | false=>
    have hn:false=r0:=by rw[←hr];exact (by rw[show (decide ((⟨f,cl,ln,4,nm,gd,ws⟩:Cs).num.1.length=0))=true from e1,show (decide ((⟨f,cl,ln,4,nm,gd,ws⟩:Cs).num.2.length=0))=false from e2];rfl)
    have z2:((nm.2.length:Int)==0)=false:=zB5 (fun h=>by rw[decide_eq_false_iff_not] at e2;omega);replace hn:Hd _:=hn;clear hr e1 e2;refine zW tyF ?_;refine R1.dS fun K2 p1 p2 p3 p4=>?_;refine zW tyF ?_;exact p4.out _ _ (fin (false) _ _ qp qe (g1) (hn.out))
   | true=>
    have z2:((nm.2.length:Int)==0)=true:=by rw[decide_eq_true_eq] at e2;rw[beq_iff_eq];omega
    have hn:lEq gd []=r0:=by rw[←hr];exact (by rw[show (decide ((⟨f,cl,ln,4,nm,gd,ws⟩:Cs).num.1.length=0))=true from e1,show (decide ((⟨f,cl,ln,4,nm,gd,ws⟩:Cs).num.2.length=0))=true from e2];rfl)
    replace hn:Hd _:=hn;clear hr e1 e2;refine zW tyF ?_;refine R1.dS fun K2 p1 p2 p3 p4=>?_;refine zW tyF ?_;exact p4.out _ _ (fin (lEq gd []) _ _ qp qe (g1) (hn.out))
 rw[zB1 (by exact q4)] at hr;by_cases q3:k=1∨k=2∨k=3
 ·rw[zB0 (by exact q3)] at hr;replace hr:Hd ((decide (fl nm=0)&&(lEq gd []||nmB gd))=r0):=hr;clear q4 lp lq;rcases q3 with rfl|rfl|rfl <;>
  ·refine zW tyF ?_;refine R1.dS fun K2 p1 p2 p3 p4=>?_;refine zW tyF ?_;refine zG (qA tyF (qA te eG)) fun K hK=>?_;refine WE.con (qn H1 p q nm hp hq) fun w2 H2 g2 P2=>?_;subst P2;have rx:=(g2.get _ m1 zB2).trans rx;have m1:=zA0 m1 g2.nx;have g12:=g1.gr g2;clear g1 g2;cases e1:decide (fl nm=0) with
   | false=>
    have z1:(fl nm==0)=false:=zB5 (of_decide_eq_false e1);have hn:false=r0:=by rw[←hr.out,e1];rfl
    replace hn:Hd _:=hn;clear hr e1;refine zK tyF ?_;exact p4.out _ _ (fin (false) _ _ qp qe (g12) (hn.out))
   | true=>
    have z1:(fl nm==0)=true:=beq_iff_eq.2 (of_decide_eq_true e1);cases e2:lEq gd [] with
    | true=>
     have hn:true=r0:=by rw[←hr.out,e1,e2];rfl
     replace hn:Hd _:=hn;clear hr e1;refine zK tyF ?_;exact p4.out _ _ (fin (true) _ _ qp qe (g12) (hn.out))
    | false=>
     have hn:nmB gd=r0:=by rw[←hr.out,e1,e2];rfl
     replace hn:Hd _:=hn;clear hr e1;refine zS (qA tyF eG) ?_;refine WE.con (pz (X:=fun _=>False) gd _) fun w3 H3 g3 O5=>?_;subst O5;refine zK tyF ?_;exact p4.out _ _ (fin (nmB gd) _ _ qp qe (g12.gr g3) (hn.out))
 rw[zB1 (by exact q3)] at hr;have hn:false=r0:=hr;have e1:(k==1)=false:=zB5 (by omega);have e2:(k==2)=false:=zB5 (by omega);have e3:(k==3)=false:=zB5 (by omega);have e4:(k==4)=false:=zB5 q4;replace hn:Hd _:=hn;clear hr q3 q4;refine zW tyF ?_;refine R1.dS fun K2 p1 p2 p3 p4=>?_;refine zW tyF ?_;refine p1.out _ _ ?_;refine zW tyF ?_;exact fin (false) _ _ qp qe (g1) (hn.out)
theorem Oq (H:Hp) (c c':Cs) (p q w p' q' w':AC) (hp:ltV (.one p) H.nx) (hq:ltV (.one q) H.nx) (hw:ltV (.one w) H.nx) (F3:ltV (.one p') H.nx) (O4:ltV (.one q') H.nx) (U1:ltV (.one w') H.nx):
  Con E2 165 [.agg [.i .i64 c.face,.i .i64 c.col,.i .i64 c.line,.i .i64 c.kind,p,q,.o (.str c.good),w],.agg [.i .i64 c'.face,.i .i64 c'.col,.i .i64 c'.line,.i .i64 c'.kind,p',q',.o (.str c'.good),w']] H (fun _=>False) fun r _=>r=.one (.b (oz c' c)):=by
 refine Con.of rfl fun lg=>?_;have hp:ltV (.one p) (⟨H.t,H.nx,lg⟩:Hp).nx:=hp;have hq:ltV (.one q) (⟨H.t,H.nx,lg⟩:Hp).nx:=hq;have hw:ltV (.one w) (⟨H.t,H.nx,lg⟩:Hp).nx:=hw;have F3:ltV (.one p') (⟨H.t,H.nx,lg⟩:Hp).nx:=F3;have O4:ltV (.one q') (⟨H.t,H.nx,lg⟩:Hp).nx:=O4;have U1:ltV (.one w') (⟨H.t,H.nx,lg⟩:Hp).nx:=U1;generalize (⟨H.t,H.nx,lg⟩:Hp)=H at hp hq hw F3 O4 U1 ⊢;refine C1.body (E:=E2) (nt:=30) (res:=[.tmp 4]) Tryz.func165 rfl rfl rfl rfl rfl fun tm A0=>?_;have h0:=A0 0 _ rfl;have h1:=A0 1 _ rfl;clear A0;have fin:∀ (e:Bool) (A:ab) (H3:Hp),slot A.tm 4=.one (.b e)→A.dfr=[]→Gr H H3→e=oz c' c→∃ w H4,aC E2 [.tmp 4] (.ret,A,H3)=.ok [(w,H4)]∧Gr H H4∧∀ _:List Nat,w=.one (.b (oz c' c)):=fun e A H3 h1 h2 h3 h4=>⟨_,H3,ai (.b e) (.inr rfl) h2 h1,h3,fun _=>by rw[h4]⟩;generalize E0:oz c' c=r0 at fin;replace E0:Hd _:=E0;refine zG tyF fun K hK=>?_;refine hK.out _ _ ?_;refine R1.gen (fun A1 H1=>Gr H H1∧H.nx+1<H1.nx∧H1.get H.nx=some (.arr [.i .i64 c.face,.i .i64 c.col,.i .i64 c.line,.i .i64 c.kind,p,q,.o (.str c.good),w] 69 0 0)∧H1.get (H.nx+1)=some (.arr [.i .i64 c'.face,.i .i64 c'.col,.i .i64 c'.line,.i .i64 c'.kind,p',q',.o (.str c'.good),w'] 69 0 0)∧slot A1.tm 2=.one ((.o (.ptr H.nx 0 0 8)))∧slot A1.tm 3=.one ((.o (.ptr (H.nx+1) 0 0 8)))∧A1.nt=30∧A1.dfr=[])
  ⟨((Fr.refl _).new _).new _,by show H.nx+1<H.nx+1+1;omega,by rw[aZ (by show H.nx<H.nx+1;omega)];exact aG rfl,aG rfl,zL⟩ ?_
 clear h0 h1 tm hK K hp hq hw F3 O4 U1;rintro A1 H1 ⟨g1,n1,ra,rb,t2,t3,B0,C0⟩;obtain ⟨N,hN⟩:∃ N,N=H.nx:=⟨_,rfl⟩;rw[←hN] at n1 ra rb t2 t3;clear hN;have n0:N<H1.nx:=by omega
 by_cases q1:c.face=c'.face
 ·have e1:(c.face==c'.face)=true:=beq_iff_eq.2 (by omega);by_cases q2:c.col=c'.col
  ·have hn:decide (c'.line<c.line)=r0:=by
    rw[←E0.out];unfold oz;rw[zB0 q1,zB0 q2]
   have e2:(c.col==c'.col)=true:=beq_iff_eq.2 (by omega);replace hn:Hd _:=hn;clear E0 q1 q2;refine zW tyF ?_;exact fin (decide (c'.line<c.line)) _ _ qp qe (g1) (hn.out)
  have hn:decide (c'.col<c.col)=r0:=by
   rw[←E0.out];unfold oz;rw[zB0 q1,zB1 q2]
  have e2:(c.col==c'.col)=false:=zB5 (fun h=>q2 (by omega));replace hn:Hd _:=hn;clear E0 q1 q2;refine zW tyF ?_;exact fin (decide (c'.col<c.col)) _ _ qp qe (g1) (hn.out)
 have hn:decide (c'.face<c.face)=r0:=by
  rw[←E0.out];unfold oz;rw[zB1 q1]
 have e1:(c.face==c'.face)=false:=zB5 (fun h=>q1 (by omega));replace hn:Hd _:=hn;clear E0 q1;refine zW tyF ?_;exact fin (decide (c'.face<c.face)) _ _ qp qe (g1) (hn.out)
theorem Ci:al Tryz.prog 163=true:=by kernel_rfl
theorem xy:al Tryz.prog 164=true:=by kernel_rfl
theorem Qk:al Tryz.prog 165=true:=by kernel_rfl
theorem CM:al Tryz.prog 102=true:=by kernel_rfl
theorem pf:al Tryz.prog 52=true:=by kernel_rfl
theorem xz (H:Hp) (b:AC) (bf:List Cs) (c:Cs) (p q w:AC) (hb:dg H b bf) (hp:bB H p c.num.1) (hq:bB H q c.num.2) (hw:SlP H w c.ws) (hL:c.ws.length≤4611686018427387904) (hBF:bf.length≤4611686018427387904):
  Con E2 102 [.one b,.agg [.i .i64 c.face,.i .i64 c.col,.i .i64 c.line,.i .i64 c.kind,p,q,.o (.str c.good),w]] H (fun _=>False) fun r _=>r=.one (.i .i64 (eW bf c)):=by
 refine Con.of rfl fun lg=>?_;have hb:dg ⟨H.t,H.nx,lg⟩ b bf:=hb;have hp:bB ⟨H.t,H.nx,lg⟩ p c.num.1:=hp;have hq:bB ⟨H.t,H.nx,lg⟩ q c.num.2:=hq;have hw:SlP ⟨H.t,H.nx,lg⟩ w c.ws:=hw;generalize (⟨H.t,H.nx,lg⟩:Hp)=H at hb hp hq hw ⊢;refine C1.body (E:=E2) (nt:=30) (res:=[.tmp 4]) Tryz.func102 rfl rfl rfl rfl rfl fun tm A0=>?_;have h0:=A0 0 _ rfl;have h1:=A0 1 _ rfl;clear A0;have fin:∀ (e:Int) (A:ab) (H3:Hp),slot A.tm 4=.one (.i .i64 e)→A.dfr=[]→Gr H H3→e=eW bf c→∃ w H4,aC E2 [.tmp 4] (.ret,A,H3)=.ok [(w,H4)]∧Gr H H4∧∀ _:List Nat,w=.one (.i .i64 (eW bf c)):=fun e A H3 h1 h2 h3 h4=>⟨_,H3,ai (.i .i64 e) (.inr rfl) h2 h1,h3,fun _=>by rw[h4]⟩;generalize E0:eW bf c=r0 at fin;have lb:=hb.lt;have lp:=hp.lt;have lq:=hq.lt;have lw:=hw.lt;refine zG tyF fun K hK=>?_;refine hK.out _ _ ?_;refine R1.gen (fun A1 H1=>Gr H H1∧H.nx<H1.nx∧H1.get H.nx=some (.arr [.i .i64 c.face,.i .i64 c.col,.i .i64 c.line,.i .i64 c.kind,p,q,.o (.str c.good),w] 69 0 0)∧slot A1.tm 0=.one (b)∧slot A1.tm 3=.one ((.o (.ptr H.nx 0 0 8)))∧A1.nt=30∧A1.dfr=[])
  ⟨(Fr.refl _).new _,zA6 _,aG rfl,zL⟩ ?_
 clear h0 h1 tm hK K lp lq lw lb;rintro A1 H1 ⟨g1,m1,rx,t0,t3,B0,C0⟩;obtain ⟨N,hN⟩:∃ N,N=H.nx:=⟨_,rfl⟩;rw[←hN] at m1 rx t3;clear hN;have hb:=hb.gr g1;have hp:=hp.gr g1;have hq:=hq.gr g1;have hw:=hw.gr g1;replace E0:Hd _:=E0;refine zG (qA tyF Ci) fun K hK=>?_;refine WE.con (xB H1 c.face c.col c.line c.kind c.num c.good c.ws p q w hp hq hw) fun w2 H2 g2 P2=>?_;subst P2;have ec:eV ⟨c.face,c.col,c.line,c.kind,c.num,c.good,c.ws⟩=eV c:=rfl;rw[ec];clear ec;have rx:=(g2.get _ m1 zB2).trans rx;have m1:=zA0 m1 g2.nx;have hb:=hb.gr g2;have hp:=hp.gr g2;have hq:=hq.gr g2;have hw:=hw.gr g2;have g2:=g1.gr g2;clear g1;cases e1:eV c with
 | false=>
  have hn:41=r0:=by rw[←E0.out];exact (zB0 e1).symm
  replace hn:Hd _:=hn;clear E0;refine zK tyF ?_;exact fin (41) _ _ qp qe (g2) (hn.out)
 | true=>
 have hr:=E0.out;unfold eW at hr;rw[zB1 (by rw[e1];decide)] at hr;replace hr:Hd _:=hr;replace e1:Hd _:=e1;clear E0;have lw:=hw.lt;refine zK tyF ?_;refine zG (qA tyF xy) fun K hK=>?_;refine WE.con (wP H2 w c.ws hw hL) fun w3 H3 g3 O5=>?_;subst O5;have rx:=(g3.get _ m1 zB2).trans rx;have m1:=zA0 m1 g3.nx;have hb:=hb.gr g3;have hp:=hp.gr g3;have hq:=hq.gr g3;have hw:=hw.gr g3;have g3:=g2.gr g3;clear g2 lw;rcases It c.ws with ew|ew
 case inr=>
  have hn:42=r0:=by rw[←hr.out];exact (zB0 (by rw[ew];decide)).symm
  rw[ew];replace hn:Hd _:=hn;clear hr ew;refine zK tyF ?_;exact fin (42) _ _ qp qe (g3) (hn.out)
 replace hr:=hr.out;rw[zB1 (by rw[ew];decide)] at hr;rw[ew];clear ew;replace hr:Hd _:=hr;have lb:=hb.len;have lb2:=hb.lt;refine zK tyF ?_;by_cases q0:0<bf.length
 ·obtain ⟨id,g,off,cells,rfl,hid,T0,O0⟩:=hb.open q0;have u6:bf.length - 1<bf.length:=by omega
  have ey:bf[bf.length - 1]?=some bf[bf.length - 1]:=zB4 u6;obtain ⟨p',q',w',hy⟩:=O0 (bf.length - 1) _ ey;have hl:bf.getLast?=some bf[bf.length - 1]:=by rw[List.getLast?_eq_getElem?];exact ey
  generalize bf[bf.length - 1]=y at ey hy hl;have I0:=hr.out;rw[hl] at I0;have F3:=hy.of1;have O4:=hy.of2;have U1:=hy.of3;have y1:=hy.all;have y2:=hy.le;have D4:IntKind.i64.wrap ((bf.length:Int) - 1)=((bf.length - 1:Nat):Int):=by rw[au (by omega) (by omega)];omega
  have e0:(0:Int)<(bf.length:Int):=by omega
  clear hy O0 ey hl hr;have I0:(if (!oz y c)=true then (43:Int) else 0)=r0:=I0;replace I0:Hd _:=I0;skip
  refine zG (qA tyF (qA (ixC u6) Qk)) fun K hK=>?_;refine WE.con (Oq H3 c y p q w p' q' w' hp.lt hq.lt hw.lt F3.lt O4.lt U1.lt) fun w4 H4 g4 a8=>?_;subst a8;cases eb:oz y c with
  | false=>
   have hn:43=r0:=by rw[←I0.out,eb];rfl
   replace hn:Hd _:=hn;clear I0;refine zK tyF ?_;exact fin (43) _ _ qp qe (g3.gr g4) (hn.out)
  | true=>
   have hn:0=r0:=by rw[←I0.out,eb];rfl
   replace hn:Hd _:=hn;clear I0;refine zK tyF ?_;exact fin (0) _ _ qp qe (g3.gr g4) (hn.out)
 have hz:bf=[]:=List.eq_nil_of_length_eq_zero (by omega);subst hz;have hn:0=r0:=by rw[←hr.out];rfl
 replace hn:Hd _:=hn;clear hr;skip
 refine zW tyF ?_;exact fin (0) _ _ qp qe (g3) (hn.out)
theorem np (H:Hp) (n:List UInt8) (b:AC) (l:List Cs) (hb:dg H b l) (hB:TbB l):Con E2 52 [.agg [.o (.str n),b]] H (fun _=>False) fun r _=>r=.one (.i .i64 (gM (n,l))):=by
 refine Con.of rfl fun lg=>?_;have hb:dg ⟨H.t,H.nx,lg⟩ b l:=hb;generalize (⟨H.t,H.nx,lg⟩:Hp)=H at hb ⊢;refine C1.body (E:=E2) (nt:=32) (res:=[.tmp 2]) Tryz.func52 rfl rfl rfl rfl rfl fun tm A0=>?_;have h0:=A0 0 _ rfl;clear A0;have fin:∀ (e:Int) (A:ab) (H3:Hp),slot A.tm 2=.one (.i .i64 e)→A.dfr=[]→Gr H H3→e=gM (n,l)→∃ w H4,aC E2 [.tmp 2] (.ret,A,H3)=.ok [(w,H4)]∧Gr H H4∧∀ _:List Nat,w=.one (.i .i64 (gM (n,l))):=fun e A H3 h1 h2 h3 h4=>⟨_,H3,ai (.i .i64 e) (.inr rfl) h2 h1,h3,fun _=>by rw[h4]⟩;generalize E0:gM (n,l)=r0 at fin;have hl:l.length*120≤140737488355328:=hB.c;have lb:=hb.lt;refine zG tyF fun K hK=>?_;refine hK.out _ _ ?_;refine R1.gen (fun A1 H1=>Gr H H1∧H.nx<H1.nx∧H1.get H.nx=some (.arr [.o (.str n),b] 26 0 0)∧slot A1.tm 1=.one ((.o (.ptr H.nx 0 0 2)))∧A1.nt=32∧A1.dfr=[])
  ⟨(Fr.refl _).new _,zA6 _,aG rfl,zL⟩ ?_
 clear h0 tm hK K lb;rintro A1 H1 ⟨g1,m1,rx,t1,B0,C0⟩;obtain ⟨N,hN⟩:∃ N,N=H.nx:=⟨_,rfl⟩;rw[←hN] at m1 rx t1;clear hN;have hb:=hb.gr g1;replace E0:Hd _:=E0;refine zG (qA tyF eG) fun K hK=>?_;refine WE.con (pz (X:=fun _=>False) n _) fun w2 H2 g2 P2=>?_;subst P2;have rx:=(g2.get _ m1 zB2).trans rx;have m1:=zA0 m1 g2.nx;have hb:=hb.gr g2;have g2:=g1.gr g2;clear g1;cases e1:nmB n with
 | false=>
  have hn:40=r0:=by rw[←E0.out];exact (zB0 e1).symm
  replace hn:Hd _:=hn;clear E0;refine zK tyF ?_;exact fin (40) _ _ qp qe (g2) (hn.out)
 | true=>
 have hr:=E0.out;unfold gM at hr;rw[zB1 (by show ¬nmB n=false;rw[e1];decide)] at hr;clear E0;have l1:=hb.len;have l2:=hb.lt;by_cases q1:(256:Int)<l.length
 ·have hn:3=r0:=by rw[←hr];exact (zB0 q1).symm
  replace hn:Hd _:=hn;clear hr;refine zK tyF ?_;exact fin (3) _ _ qp qe (g2) (hn.out)
 have hn:Hd (goT [] l=r0):=by rw[←hr];exact (zB1 q1).symm
 clear hr;replace e1:Hd _:=e1;refine zK tyF ?_;refine R1.dS fun K k1 k2 k3 k4=>?_;refine R1.loop (fun z A H3=>∃ i:Nat,z=l.length - i∧i≤l.length∧Gr H2 H3∧Hd (goT (l.take i) (l.drop i)=r0)∧slot A.tm 1=.one ((.o (.ptr N 0 0 2)))∧slot A.tm 15=.one (b)∧slot A.tm 16=.one (.i .i64 (l.length:Int))∧slot A.tm 17=.one (.i .i64 (i:Int))∧A.nt=32∧A.dfr=[]) ?_ l.length
  ⟨0,rfl,Nat.zero_le _,Fr.refl _,hn,zL⟩
 clear t1 hn B0 C0 A1 l1 l2 k3;rintro z A H3 ⟨i,rfl,hi,g3,hr,t1,t15,t16,t17,B0,C0⟩;have hb3:=hb.gr g3;have rx:=(g3.get _ m1 zB2).trans rx;have m1:=zA0 m1 g3.nx;have l1:=hb3.len;have l2:=hb3.lt;refine zW tyF ?_;refine zI tyF (fun hc=>?_) (fun hc=>?_)
 ·have D0:i<l.length:=by omega
  have ex:=zB4 D0;have Z0:=zC1 D0;have U2:=zC2 D0;have N0:l[i]∈l:=List.getElem_mem D0;generalize l[i]=x at ex Z0 U2 N0;have J1:=zC0 i (by omega);obtain ⟨id,g,off,cells,rfl,hid,T0,O0⟩:=hb3.open (by omega);obtain ⟨p,q,w,hx⟩:=O0 i x ex;have y1:=hx.all;have y2:=hx.le;have hp:=hx.of1;have hq:=hx.of2;have hw:=hx.of3;have lp:=hp.lt;have lq:=hq.lt;have lw:=hw.lt;have hwl:=hB.w x N0;have F0:=hr.out;rw[Z0,goT,←U2] at F0;replace F0:Hd _:=F0;replace ex:Hd _:=ex;clear hx O0 N0 Z0 hr U2 l1;refine zW tyF ?_;refine R1.dS fun K2 p1 p2 p3 p4=>?_;refine zG (qA tyF (ixC D0)) fun K3 Y4=>?_;refine Y4.out _ _ ?_;refine R1.gen (fun A4 H4=>Gr H3 H4∧H3.nx<H4.nx∧H4.get H3.nx=some (.arr [.i .i64 x.face,.i .i64 x.col,.i .i64 x.line,.i .i64 x.kind,p,q,.o (.str x.good),w] 69 0 0)∧slot A4.tm 1=.one ((.o (.ptr N 0 0 2)))∧slot A4.tm 3=.one (.i .i64 (i:Int))∧slot A4.tm 4=.one ((.o (.ptr H3.nx 0 0 8)))∧slot A4.tm 15=.one ((.o (.sl id g off l.length 8)))∧slot A4.tm 16=.one (.i .i64 (l.length:Int))∧slot A4.tm 17=.one (.i .i64 (i:Int))∧A4.nt=32∧A4.dfr=[])
   ⟨((Fr.refl _).new _).mod _ (.inl (zA1 _)),zA6 _,aj rfl,zL⟩ ?_
  clear t1 t15 t16 t17 B0 C0 A y1 y2 Y4 K3;rintro A H4 ⟨g34,mM,rM,t1,t3,t4,t15,t16,t17,B0,C0⟩;obtain ⟨M,hM⟩:∃ M,M=H3.nx:=⟨_,rfl⟩;rw[←hM] at mM rM t4;clear hM;have rx:=(g34.get _ m1 zB2).trans rx;have m1:=zA0 m1 g34.nx;have y1:True:=trivial;have y2:True:=trivial;have lp:=CC lp g34.nx;have lq:=CC lq g34.nx;have lw:=CC lw g34.nx;have l2:=CC l2 g34.nx;have Q3:dg H4 (.o (.sl id g off i 8)) (l.take i):=SlR.take (hb.gr (g3.gr g34)) (by omega);refine zG (qA tyF (qA (ixC D0) (qA (slH (show i≤l.length by omega)) CM))) fun K3 Y4=>?_;refine WE.con (xz H4 _ (l.take i) x p q w Q3 (hp.gr g34) (hq.gr g34) (hw.gr g34) (by omega) (by rw[List.length_take];omega)) fun w5 H5 g5 y9=>?_;subst y9;have g35:=g34.gr g5;clear g34 Q3 hp hq hw lp lq lw y1 y2 T0 hid;by_cases en:eW (l.take i) x=0
  ·have I0:=F0.out;rw[zB1 (fun h=>h en)] at I0;rw[en];replace I0:Hd _:=I0;clear F0 en;refine zK tyF ?_;refine p1.out _ _ ?_;refine zW tyF ?_;exact ⟨l.length - (i+1),by omega,i+1,rfl,D0,g3.gr g35,I0,zL⟩
  have hn:eW (l.take i) x=r0:=by rw[←F0.out];exact (zB0 en).symm
  have e2:(eW (l.take i) x==0)=false:=zB5 en;generalize eW (l.take i) x=e0 at hn e2;replace hn:Hd _:=hn;clear F0 en;refine zK tyF ?_;exact p4.out _ _ (k4.out _ _ (fin (e0) _ _ qp qe (g2.gr (g3.gr g35)) (hn.out)))
 have he:i=l.length:=by omega
 subst he;have hn:=hr.out;rw[List.drop_length,goT] at hn;replace hn:Hd _:=hn;clear hr;refine zW tyF ?_;refine k2.out _ _ ?_;refine zW tyF ?_;exact fin (0) _ _ qp qe (g2.gr g3) (hn.out)
theorem lY:al Tryz.prog 140=true:=by kernel_rfl
theorem JN:al Tryz.prog 166=true:=by kernel_rfl
theorem FX:Tryz.prog.underlying 64=some (.slice 181):=by kernel_rfl
theorem xU:Tryz.prog.underlying 67=some (.slice 185):=by kernel_rfl
theorem Xf:∀ z:List AC,nq z 0=[]:=fun z=>rfl
theorem WQ:type_of% (Mq uv FX):=Mq uv FX
theorem WD:type_of% (Mq qw xU):=Mq qw xU
theorem Td {H:Hp} {v:AC} {e:TypeId} {sz n:Nat} {cells:List AC} {r:Option Nat} (h:eU H v e sz n cells r):∀ i∈(AV.one v).ids,r=some i:=by
 rcases h with ⟨rfl,_⟩|⟨id,lo,gen,h1,rfl,_⟩
 ·intro i hi;cases hi
 intro i hi;rw[List.mem_singleton.1 hi];exact h1
theorem jT (H:Hp) (v:AC) (l:List Gp) (hv:bB H v l) (hL:l.length*32≤140737488355328):
  Con E2 140 [.one v] H (fun _=>False) fun r H'=>∃ v',r=.one v'∧bB H' v' l∧∀ i∈(AV.one v').ids,H.nx≤i:=by
 refine Con.of rfl fun lg=>?_;have hv:bB ⟨H.t,H.nx,lg⟩ v l:=hv;have e0:H.nx=(⟨H.t,H.nx,lg⟩:Hp).nx:=rfl;rw[e0];clear e0;generalize (⟨H.t,H.nx,lg⟩:Hp)=H at hv ⊢;refine C1.body (E:=E2) (nt:=8) (res:=[.tmp 2]) Tryz.func140 rfl rfl rfl rfl rfl fun tm A0=>?_;have h0:=A0 0 _ rfl;clear A0;obtain ⟨z,hz,L1⟩:=XX;have X2:SlC H v 3 l.length (l.flatMap gpC):=hv;have D0:=hv.lt;rcases id X2 with ⟨hc,⟨rfl,Q5⟩|⟨id,g,off,rfl,hid,hr⟩⟩
 ·have hl:l=[]:=List.eq_nil_of_length_eq_zero Q5;subst hl;clear hz L1 z X2 hc Q5 hv;refine zW (qA tyF WQ) ?_;exact ⟨_,_,ai (.o .nilS) (.inr rfl) qe qp,Fr.refl _,fun _=>⟨_,rfl,bB.nil,fun i h=>by cases h⟩⟩
 obtain ⟨v',H',Q1,ho,hf⟩:=zj (P:=Tryz.prog) (H:=H.new (.arr [] 181 0 0)) (t:=64) (id:=H.nx) iG Xj hz L1 (by decide) (aG rfl) (zA6 _) (X2.gr ((Fr.refl _).new _)) (by omega);have hg:Gr H H':=((Fr.refl _).new _).then hf fun i h=>.inl (by omega);have hlt2:=ho.lt;clear hz L1 z hc;replace hv:Hd _:=hv;replace X2:Hd _:=X2;replace hr:Hd _:=hr;replace hf:Hd _:=hf;refine zW (qA tyF (qA WQ Xf)) ?_;exact ⟨_,_,ai v' (.inr rfl) qe qp,hg,fun _=>⟨v',rfl,ho.slc,fun i h=>by have:=Td ho i h;cases this;exact zA1 _⟩⟩
theorem Gc (H:Hp) (v:AC) (l:List Pr) (hv:SlP H v l) (hL:l.length*24≤140737488355328):
  Con E2 166 [.one v] H (fun _=>False) fun r H'=>∃ v',r=.one v'∧SlP H' v' l∧∀ i∈(AV.one v').ids,H.nx≤i:=by
 refine Con.of rfl fun lg=>?_;have hv:SlP ⟨H.t,H.nx,lg⟩ v l:=hv;have e0:H.nx=(⟨H.t,H.nx,lg⟩:Hp).nx:=rfl;rw[e0];clear e0;generalize (⟨H.t,H.nx,lg⟩:Hp)=H at hv ⊢;refine C1.body (E:=E2) (nt:=8) (res:=[.tmp 2]) Tryz.func166 rfl rfl rfl rfl rfl fun tm A0=>?_;have h0:=A0 0 _ rfl;clear A0;obtain ⟨z,hz,L1⟩:=UK;have X2:SlC H v 2 l.length (l.flatMap prC):=hv;have D0:=hv.lt;rcases id X2 with ⟨hc,⟨rfl,Q5⟩|⟨id,g,off,rfl,hid,hr⟩⟩
 ·have hl:l=[]:=List.eq_nil_of_length_eq_zero Q5;subst hl;clear hz L1 z X2 hc Q5 hv;refine zW (qA tyF WD) ?_;exact ⟨_,_,ai (.o .nilS) (.inr rfl) qe qp,Fr.refl _,fun _=>⟨_,rfl,SlP.nil,fun i h=>by cases h⟩⟩
 obtain ⟨v',H',Q1,ho,hf⟩:=zj (P:=Tryz.prog) (H:=H.new (.arr [] 185 0 0)) (t:=67) (id:=H.nx) wg Ws hz L1 (by decide) (aG rfl) (zA6 _) (X2.gr ((Fr.refl _).new _)) (by omega);have hg:Gr H H':=((Fr.refl _).new _).then hf fun i h=>.inl (by omega);have hlt2:=ho.lt;clear hz L1 z hc;replace hv:Hd _:=hv;replace X2:Hd _:=X2;replace hr:Hd _:=hr;replace hf:Hd _:=hf;refine zW (qA tyF (qA WD Xf)) ?_;exact ⟨_,_,ai v' (.inr rfl) qe qp,hg,fun _=>⟨v',rfl,ho.slc,fun i h=>by have:=Td ho i h;cases this;exact zA1 _⟩⟩
theorem Cw (H:Hp) (p q:AC) (x:Nm) (hp:bB H p x.1) (hq:bB H q x.2) (hL:x.1.length*32≤140737488355328∧x.2.length*32≤140737488355328):
  Con E2 78 [.agg [p,q]] H (fun _=>False) fun r H'=>∃ p' q',r=.agg [p',q']∧bB H' p' x.1∧bB H' q' x.2∧(∀ id∈(AV.one p').ids,H.nx≤id)∧∀ id∈(AV.one q').ids,H.nx≤id:=by
 refine Con.of rfl fun lg=>?_;have hp:bB ⟨H.t,H.nx,lg⟩ p x.1:=hp;have hq:bB ⟨H.t,H.nx,lg⟩ q x.2:=hq;have e0:H.nx=(⟨H.t,H.nx,lg⟩:Hp).nx:=rfl;rw[e0];clear e0;generalize (⟨H.t,H.nx,lg⟩:Hp)=H at hp hq ⊢;refine C1.body (E:=E2) (nt:=10) (res:=[.cell 2 66]) Tryz.func78 rfl rfl rfl rfl rfl fun tm A0=>?_;have h0:=A0 0 _ rfl;clear A0;have lp:=hp.lt;have lq:=hq.lt;refine zG tyF fun K hK=>?_;refine hK.out _ _ ?_;refine R1.gen (fun A1 H1=>Gr H H1∧H.nx+1<H1.nx∧H1.get H.nx=some (.arr [p,q] 66 0 0)∧H1.get (H.nx+1)=some (.arr [.o .nilS,.o .nilS] 66 0 0)∧slot A1.tm 1=.one ((.o (.ptr H.nx 0 0 2)))∧slot A1.tm 2=.one ((.o (.ptr (H.nx+1) 0 0 2)))∧A1.nt=10∧A1.dfr=[])
  ⟨((Fr.refl _).new _).new _,by show H.nx+1<H.nx+1+1;omega,by rw[aZ (by show H.nx<H.nx+1;omega)];exact aG rfl,aG rfl,zL⟩ ?_
 clear h0 tm hK K lp lq;rintro A1 H1 ⟨g1,n1,r1,r2,t1,t2,B0,C0⟩;obtain ⟨N,hN⟩:∃ N,N=H.nx:=⟨_,rfl⟩;rw[←hN] at n1 r1 r2 t1 t2;replace hN:Hd _:=hN;have hp:=hp.gr g1;have hq:=hq.gr g1;have l1:N<H1.nx:=by omega
 have lp:=hp.lt;have lq:=hq.lt;repeat refine R1.aA ?_
 repeat refine R1.aA ?_
 (first|refine R1.mq (ms:=[0,1,3,0,8,31,63,127]) (by kernel_rfl) (by kernel_rfl) fun K hK=>?_|refine R1.lZ (ms:=[0,1,3,0,8,31,63,127]) (by kernel_rfl) (by kernel_rfl) fun K hK=>?_)
 simp (config:={decide:=true}) only [qB,aq,Nat.reduceLT,Nat.reduceEqDiff,Nat.reduceLeDiff,reduceIte,Nat.reduceAdd,Nat.reduceSub,Nat.reduceMul,Int.reduceLT,Int.reduceLE,Int.reduceBEq,qD,bJ,bQ,aR,reduceCtorEq,ae,t1,t2,B0,r1,l1,cF,dN,cP,lY]
 refine jI (fun r H'=>∃ v',r=.one v'∧bB H' v' x.1∧∀ i∈(AV.one v').ids,H1.nx≤i) (fun v h1 h2 hg ⟨v',a,b,c⟩=>⟨v',a,b.gr hg,c⟩) ?_ (fun h hg hn=>by have:=jT h p x.1 (hp.gr hg) hL.1;rw[hn] at this;exact this) ?_
 ·exact unU (by simp (config:={decide:=true}) only [aR,if_true])
 rintro w kx H2 ⟨p',rfl,F3,ip⟩ hkx V5 g2;subst V5;have r1:H2.get N=some (.arr [p,q] 66 0 0):=by rw[g2.get _ l1 zB2];exact r1
 have r2:H2.get (N+1)=some (.arr [.o .nilS,.o .nilS] 66 0 0):=by rw[g2.get _ n1 zB2];exact r2
 have n2:N+1<H2.nx:=zA0 n1 g2.nx;have l2:N<H2.nx:=by omega
 simp (config:={decide:=true}) only [qB,aq,Nat.reduceLT,Nat.reduceEqDiff,Nat.reduceLeDiff,reduceIte,Nat.reduceAdd,Nat.reduceSub,Nat.reduceMul,Int.reduceLT,Int.reduceLE,Int.reduceBEq,qD,bJ,bQ,aR,reduceCtorEq,ae,t1,t2,B0,r1,l1,l2,cF,dN,cP,lY]
 refine jI (fun r H'=>∃ v',r=.one v'∧bB H' v' x.2∧∀ i∈(AV.one v').ids,H2.nx≤i) (fun v h1 h2 hg ⟨v',a,b,c⟩=>⟨v',a,b.gr hg,c⟩) ?_ (fun h hg hn=>by have:=jT h q x.2 ((hq.gr g2).gr hg) hL.2;rw[hn] at this;exact this) ?_
 ·exact unU (by simp (config:={decide:=true}) only [aR,if_true])
 rintro w kx H3 ⟨q',rfl,O4,iq⟩ hkx hn3 g3;subst hn3;have r2:H3.get (N+1)=some (.arr [.o .nilS,.o .nilS] 66 0 0):=by rw[g3.get _ n2 zB2];exact r2
 have n3:N+1<H3.nx:=zA0 n2 g3.nx;have z9:=F3.gr g3;have g13:=(g1.gr g2).gr g3;have i12:=g1.nx;have i23:=g2.nx;replace i12:Hd _:=i12;replace i23:Hd _:=i23;have keep:∀ {u:AC} {l:List Gp},bB H3 u l→(∀ id∈(AV.one u).ids,H1.nx≤id)→bB (H3.mod (N+1) (.arr [p',q'] 66 0 0)) u l:=fun hu hi=>SlC.fr hu (X:=fun k=>k=N+1) ((Fr.refl _).mod _ (.inr rfl)) fun id h hh=>by have:=hi id h;omega
 have kp:=keep z9 ip;have kq:=keep O4 (fun i h=>by have:=iq i h;have:=i23.out;omega);clear keep;replace kp:Hd _:=kp;replace kq:Hd _:=kq;simp (config:={decide:=true}) only [qB,aq,Nat.reduceLT,Nat.reduceEqDiff,Nat.reduceLeDiff,reduceIte,Nat.reduceAdd,Nat.reduceSub,Nat.reduceMul,Int.reduceLT,Int.reduceLE,Int.reduceBEq,qD,bJ,bQ,aR,reduceCtorEq,ae,t1,t2,B0,MH CT Bm,rm,qO,BY,r2,n3]
 refine hK _ _ ?_;clear hK K;refine qV ?_;exact ⟨_,_,fb (id:=N+1) (g:=0) uC (.inr rfl) (by simp only[ak,C0];rfl) (by simp only[aa,Nat.reduceEqDiff,reduceIte,t2]) (by rw[aj rfl];exact cy (zA1 _) (zA1 _)) (zA1 _) rfl,g13.mod _ (.inl (by have:=hN.out;omega)),fun _=>⟨p',q',rfl,kp.out,kq.out,fun id h=>by have:=ip id h;have:=i12.out;omega,fun id h=>by have:=iq id h;have:=i12.out;have:=i23.out;omega⟩⟩
def Mv (n:Nat) (c:Cs) (r:AV) (H:Hp):Prop:=∃ c',r=.agg c'∧c'.length=8∧CsR H c' c∧∀ id∈jB c',n≤id
theorem Cr (H:Hp) (c:Cs) (p q w:AC) (hp:bB H p c.num.1) (hq:bB H q c.num.2) (hw:SlP H w c.ws) (hL:c.num.1.length*32≤140737488355328∧c.num.2.length*32≤140737488355328) (hW:c.ws.length*24≤140737488355328):
  Con E2 103 [.agg [.i .i64 c.face,.i .i64 c.col,.i .i64 c.line,.i .i64 c.kind,p,q,.o (.str c.good),w]] H (fun _=>False) fun r H'=>Mv H.nx c r H':=by
 unfold Mv;refine Con.of rfl fun lg=>?_;have hp:bB ⟨H.t,H.nx,lg⟩ p c.num.1:=hp;have hq:bB ⟨H.t,H.nx,lg⟩ q c.num.2:=hq;have hw:SlP ⟨H.t,H.nx,lg⟩ w c.ws:=hw;have e0:H.nx=(⟨H.t,H.nx,lg⟩:Hp).nx:=rfl;rw[e0];clear e0;generalize (⟨H.t,H.nx,lg⟩:Hp)=H at hp hq hw ⊢;refine C1.body (E:=E2) (nt:=18) (res:=[.cell 2 69]) Tryz.func103 rfl rfl rfl rfl rfl fun tm A0=>?_;have h0:=A0 0 _ rfl;clear A0;have lp:=hp.lt;have lq:=hq.lt;have lw:=hw.lt;refine zG tyF fun K hK=>?_;refine hK.out _ _ ?_;refine R1.gen (fun A1 H1=>Gr H H1∧H.nx+1<H1.nx∧H1.get H.nx=some (.arr [.i .i64 c.face,.i .i64 c.col,.i .i64 c.line,.i .i64 c.kind,p,q,.o (.str c.good),w] 69 0 0)∧H1.get (H.nx+1)=some (.arr [.i .i64 0,.i .i64 0,.i .i64 0,.i .i64 0,.o .nilS,.o .nilS,.o (.str []),.o .nilS] 69 0 0)∧slot A1.tm 1=.one ((.o (.ptr H.nx 0 0 8)))∧slot A1.tm 2=.one ((.o (.ptr (H.nx+1) 0 0 8)))∧A1.nt=18∧A1.dfr=[])
  ⟨((Fr.refl _).new _).new _,by show H.nx+1<H.nx+1+1;omega,by rw[aZ (by show H.nx<H.nx+1;omega)];exact aG rfl,aG rfl,zL⟩ ?_
 clear h0 tm hK K lp lq lw;rintro A1 H1 ⟨g1,n1,r1,r2,t1,t2,B0,C0⟩;obtain ⟨N,hN⟩:∃ N,N=H.nx:=⟨_,rfl⟩;rw[←hN] at n1 r1 r2 t1 t2;replace hN:Hd _:=hN;have hp:=hp.gr g1;have hq:=hq.gr g1;have hw:=hw.gr g1;have l1:N<H1.nx:=by omega
 have lp:=hp.lt;have lq:=hq.lt;repeat refine R1.aA ?_
 repeat refine R1.aA ?_
 (first|refine R1.mq (ms:=[0,1,3,7,0,16,48,127,255,511,1023]) (by kernel_rfl) (by kernel_rfl) fun K hK=>?_|refine R1.lZ (ms:=[0,1,3,7,0,16,48,127,255,511,1023]) (by kernel_rfl) (by kernel_rfl) fun K hK=>?_)
 simp (config:={decide:=true}) only [qB,aq,Nat.reduceLT,Nat.reduceEqDiff,Nat.reduceLeDiff,reduceIte,Nat.reduceAdd,Nat.reduceSub,Nat.reduceMul,Int.reduceLT,Int.reduceLE,Int.reduceBEq,qD,bJ,bQ,aR,reduceCtorEq,ae,t1,B0,r1,l1,kA,cF,dN,cP,lY]
 refine jI (fun r H'=>∃ v',r=.one v'∧bB H' v' c.num.1∧∀ i∈(AV.one v').ids,H1.nx≤i) (fun v h1 h2 hg ⟨v',a,b,c⟩=>⟨v',a,b.gr hg,c⟩) ?_ (fun h hg hn=>by have:=jT h p c.num.1 (hp.gr hg) hL.1;rw[hn] at this;exact this) ?_
 ·exact unU (by simp (config:={decide:=true}) only [aR,if_true])
 rintro w1 kx H2 ⟨p',rfl,F3,ip⟩ hkx V5 g2;subst V5;have r1:H2.get N=some (.arr [.i .i64 c.face,.i .i64 c.col,.i .i64 c.line,.i .i64 c.kind,p,q,.o (.str c.good),w] 69 0 0):=by rw[g2.get _ l1 zB2];exact r1
 have r2:H2.get (N+1)=some (.arr [.i .i64 0,.i .i64 0,.i .i64 0,.i .i64 0,.o .nilS,.o .nilS,.o (.str []),.o .nilS] 69 0 0):=by rw[g2.get _ n1 zB2];exact r2
 have n2:N+1<H2.nx:=zA0 n1 g2.nx;have l2:N<H2.nx:=by omega
 simp (config:={decide:=true}) only [qB,aq,Nat.reduceLT,Nat.reduceEqDiff,Nat.reduceLeDiff,reduceIte,Nat.reduceAdd,Nat.reduceSub,Nat.reduceMul,Int.reduceLT,Int.reduceLE,Int.reduceBEq,qD,bJ,bQ,aR,reduceCtorEq,ae,t1,B0,r1,l1,l2,kA,cF,dN,cP,lY]
 refine jI (fun r H'=>∃ v',r=.one v'∧bB H' v' c.num.2∧∀ i∈(AV.one v').ids,H2.nx≤i) (fun v h1 h2 hg ⟨v',a,b,c⟩=>⟨v',a,b.gr hg,c⟩) ?_ (fun h hg hn=>by have:=jT h q c.num.2 ((hq.gr g2).gr hg) hL.2;rw[hn] at this;exact this) ?_
 ·exact unU (by simp (config:={decide:=true}) only [aR,if_true])
 rintro w2 kx H3 ⟨q',rfl,O4,iq⟩ hkx hn3 g3;subst hn3;have r1:H3.get N=some (.arr [.i .i64 c.face,.i .i64 c.col,.i .i64 c.line,.i .i64 c.kind,p,q,.o (.str c.good),w] 69 0 0):=by rw[g3.get _ l2 zB2];exact r1
 have r2:H3.get (N+1)=some (.arr [.i .i64 0,.i .i64 0,.i .i64 0,.i .i64 0,.o .nilS,.o .nilS,.o (.str []),.o .nilS] 69 0 0):=by rw[g3.get _ n2 zB2];exact r2
 have n3:N+1<H3.nx:=zA0 n2 g3.nx;have l3:N<H3.nx:=by omega
 have z9:=F3.gr g3;have g13:=(g1.gr g2).gr g3;have i12:=g1.nx;have i23:=g2.nx;have keep:∀ {u:AC} {l:List Gp},bB H3 u l→(∀ id∈(AV.one u).ids,H1.nx≤id)→bB (H3.mod N (.arr [.i .i64 c.face,.i .i64 c.col,.i .i64 c.line,.i .i64 c.kind,p',q',.o (.str c.good),w] 69 0 0)) u l:=fun hu hi=>SlC.fr hu (X:=fun k=>k=N) ((Fr.refl _).mod _ (.inr rfl)) fun id h hh=>by have:=hi id h;omega
 simp (config:={decide:=true}) only [qB,aq,Nat.reduceLT,Nat.reduceEqDiff,Nat.reduceLeDiff,reduceIte,Nat.reduceAdd,Nat.reduceSub,Nat.reduceMul,Int.reduceLT,Int.reduceLE,Int.reduceBEq,qD,bJ,bQ,aR,reduceCtorEq,ae,t1,B0,MH CT Bm,rm,qO,BY,r1,l3,kA,l1,l2]
 refine hK _ _ ?_;clear hK K;refine R1.gen (fun A4 H4=>Gr H H4∧N+1<H4.nx∧H4.get N=some (.arr [.i .i64 c.face,.i .i64 c.col,.i .i64 c.line,.i .i64 c.kind,p',q',.o (.str c.good),w] 69 0 0)∧H4.get (N+1)=some (.arr [.i .i64 0,.i .i64 0,.i .i64 0,.i .i64 0,.o .nilS,.o .nilS,.o (.str []),.o .nilS] 69 0 0)∧bB H4 p' c.num.1∧bB H4 q' c.num.2∧slot A4.tm 1=.one ((.o (.ptr N 0 0 8)))∧slot A4.tm 2=.one ((.o (.ptr (N+1) 0 0 8)))∧A4.nt=18∧A4.dfr=[])
  ⟨g13.mod _ (.inl (by have:=hN.out;omega)),n3,aj rfl,by rw[az (by omega)];exact r2,keep z9 ip,keep O4 (fun i h=>by have:=iq i h;omega),zL⟩ ?_
 clear t1 t2 B0 C0 A1 keep r1 r2 g13;rintro A H4 ⟨g4,n4,r1,r2,hp4,a8,t1,t2,B0,C0⟩;have l4:N<H4.nx:=by omega
 have hw4:SlP H4 w c.ws:=SlP.gr (by assumption) g4;have lw:=hw4.lt;have jp:∀ i∈(AV.one p').ids,H.nx≤i∧¬(i=N∨i=N+1):=fun i h=>by have:=ip i h;have:=hN.out;omega
 have jq:∀ i∈(AV.one q').ids,H.nx≤i∧¬(i=N∨i=N+1):=fun i h=>by have:=iq i h;have:=hN.out;omega
 clear ip iq z9 F3 O4 i12 i23 g1 g2 g3 n1 n2 n3 l1 l2 l3 lp lq;replace jp:Hd _:=jp;replace jq:Hd _:=jq;refine zG (qA tyF JN) fun K hK=>?_;refine WE.con (Gc H4 w c.ws hw4 hW) fun w5 H5 g5 ⟨w',y9,U1,iw⟩=>?_;subst y9;have r1:=(g5.get _ l4 zB2).trans r1;have l4:=zA0 l4 g5.nx;have r2:=(g5.get _ n4 zB2).trans r2;have n4:=zA0 n4 g5.nx;have g45:=g4.gr g5;have hp5:=hp4.gr g5;have y9:=a8.gr g5;have i4:=g4.nx;have i5:=g5.nx;have jw:∀ i∈(AV.one w').ids,H.nx≤i∧¬(i=N∨i=N+1):=fun i h=>by have:=iw i h;have:=hN.out;omega
 have keep:Fr (fun k=>k=N∨k=N+1) H5 ((H5.mod N (.arr [.i .i64 c.face,.i .i64 c.col,.i .i64 c.line,.i .i64 c.kind,p',q',.o (.str c.good),w'] 69 0 0)).mod (N+1) (.arr [.i .i64 c.face,.i .i64 c.col,.i .i64 c.line,.i .i64 c.kind,p',q',.o (.str c.good),w'] 69 0 0)):=((Fr.refl _).mod _ (.inr (.inl rfl))).mod _ (.inr (.inr rfl));have kp:=SlC.fr hp5 keep fun i h=>(jp.out i h).2;have kq:=SlC.fr y9 keep fun i h=>(jq.out i h).2;have kw:=SlC.fr U1 keep fun i h=>(jw i h).2;clear keep i4 i5 g5 hw4 hp4 a8 lw U1 hp5 y9;replace kp:Hd _:=kp;replace kq:Hd _:=kq;replace kw:Hd _:=kw;replace jw:Hd _:=jw;refine zK tyF ?_;exact ⟨_,_,fb (id:=N+1) (g:=0) Bl (.inr rfl) (by simp only[ak,C0];rfl) (by simp only[aa,Nat.reduceEqDiff,reduceIte,t2]) (by rw[aj rfl];exact cy (zA1 _) (zA1 _)) (zA1 _) rfl,(g45.mod _ (.inl (by have:=hN.out;omega))).mod _ (.inl (by have:=hN.out;omega)),fun _=>⟨_,rfl,rfl,⟨p',q',w',rfl,kp.out,kq.out,kw.out⟩,fun i hi=>by
  have P8:i∈jB [.i .i64 c.face,.i .i64 c.col,.i .i64 c.line,.i .i64 c.kind,p',q',.o (.str c.good),w']:=hi;rw[rp] at P8;rcases List.mem_append.1 P8 with h|h
  ·exact (jp.out i h).1
  rcases List.mem_append.1 h with h|h
  ·exact (jq.out i h).1
  exact (jw.out i h).1⟩⟩
theorem Hj:al Tryz.prog 103=true:=by kernel_rfl
theorem Mv.open {n:Nat} {c:Cs} {r:AV} {H:Hp} (h:Mv n c r H):∃ p q w,r=.agg [.i .i64 c.face,.i .i64 c.col,.i .i64 c.line,.i .i64 c.kind,p,q,.o (.str c.good),w]∧CsR H [.i .i64 c.face,.i .i64 c.col,.i .i64 c.line,.i .i64 c.kind,p,q,.o (.str c.good),w] c∧∀ id∈jB [.i .i64 c.face,.i .i64 c.col,.i .i64 c.line,.i .i64 c.kind,p,q,.o (.str c.good),w],n≤id:=by
 obtain ⟨c',h1,h2,h3,h4⟩:=h;obtain ⟨p,q,w,rfl,h5⟩:=h3;exact ⟨p,q,w,h1,⟨p,q,w,rfl,h5⟩,h4⟩
theorem bx.lg {α:Type} {R:Hp→List AC→α→Prop} (hlg:∀ H lg c x,R H c x→R ⟨H.t,H.nx,lg⟩ c x) {sz:Nat} {e:TypeId} {X:Nat→Prop} {H:Hp} {v:AC} {l:List α} {r:Option Nat} (h:bx R sz e X H v l r) (lg:List Nat):bx R sz e X ⟨H.t,H.nx,lg⟩ v l r where
 row:=h.row
 own:=let ⟨css,a,b⟩:=h.own;⟨css,a,b.mono fun c x ⟨h1,h2,h3⟩=>⟨h1,hlg _ _ _ _ h2,h3⟩⟩
theorem Ud:∀ (H:Hp) (lg:List Nat) (c:List AC) (x:Cs),CsR H c x→CsR ⟨H.t,H.nx,lg⟩ c x:=fun _ _ _ _ h=>h
theorem fO (H:Hp) (n:List UInt8) (v:AC) (l:List Cs) (hv:dg H v l) (hB:TbB l):
  Con E2 53 [.one (.o (.str n)),.one v] H (fun _=>False) fun r H'=>∃ v' q,r=.agg [.o (.str n),v']∧bx CsR 8 69 (fun i=>i<H.nx) H' v' l q:=by
 refine Con.of rfl fun lg=>?_;have hv:dg ⟨H.t,H.nx,lg⟩ v l:=hv;have e0:H.nx=(⟨H.t,H.nx,lg⟩:Hp).nx:=rfl;rw[e0];clear e0;generalize (⟨H.t,H.nx,lg⟩:Hp)=H at hv ⊢;refine C1.body (E:=E2) (nt:=25) (res:=[.cell 4 26]) Tryz.func53 rfl rfl rfl rfl rfl fun tm A0=>?_;have h0:=A0 0 _ rfl;have h1:=A0 1 _ rfl;clear A0;have hl:l.length*120≤140737488355328:=hB.c;obtain ⟨z,hz,L1⟩:=Ux;replace hz:Hd _:=hz;replace L1:Hd _:=L1;refine zW tyF ?_;refine R1.gen (fun A1 H1=>Gr H H1∧H.nx+2=H1.nx∧H1.get H.nx=some (.arr [.o (.str []),.o .nilS] 26 0 0)∧H1.get (H.nx+1)=some (.arr [.o (.str n),.o .nilS] 26 0 0)∧slot A1.tm 1=.one (v)∧slot A1.tm 4=.one ((.o (.ptr H.nx 0 0 2)))∧slot A1.tm 5=.one ((.o (.ptr (H.nx+1) 0 0 2)))∧A1.nt=25∧A1.dfr=[])
  ⟨(((Fr.refl _).new _).new _).mod _ (.inl (Nat.le_succ _)),rfl,by rw[az (by show H.nx≠H.nx+1;omega),aZ (by show H.nx<H.nx+1;omega)];exact aG rfl,aj rfl,zL⟩ ?_
 clear h0 h1 tm;rintro A1 H1 ⟨g1,n1,r1,r2,t1,t4,t5,B0,C0⟩;obtain ⟨N,hN⟩:∃ N,N=H.nx:=⟨_,rfl⟩;rw[←hN] at n1 r1 r2 t4 t5;replace hN:Hd _:=hN;have D2:=hv.gr g1;have lv:=D2.lt;have ll:=D2.len;have n0:N+2≤H1.nx:=Nat.le_of_eq n1;clear n1;refine zW tyF ?_;refine R1.dS fun K k1 k2 k3 k4=>?_;refine R1.loop (fun k A H2=>∃ (i:Nat) (v':AC) (r:Option Nat),k=l.length - i∧i≤l.length∧Gr H H2∧N+2≤H2.nx∧H2.get N=some (.arr [.o (.str []),.o .nilS] 26 0 0)∧H2.get (N+1)=some (.arr [.o (.str n),v'] 26 0 0)∧bx CsR 8 69 (fun i=>i<N+2) H2 v' (l.take i) r ∧
   slot A.tm 4=.one ((.o (.ptr N 0 0 2)))∧slot A.tm 5=.one ((.o (.ptr (N+1) 0 0 2)))∧slot A.tm 10=.one (v)∧slot A.tm 11=.one (.i .i64 (l.length:Int))∧slot A.tm 12=.one (.i .i64 (i:Int))∧A.nt=25∧A.dfr=[]) ?_ l.length
  ⟨0,.o .nilS,none,rfl,Nat.zero_le _,g1,n0,r1,r2,bx.nil,zL⟩
 clear t1 t4 t5 B0 C0 A1 r1 r2 k3 lv ll D2 g1 n0 H1;rintro k A H2 ⟨i,v',r,rfl,hi,g2,n2,r1,r2,ho,t4,t5,t10,t11,t12,B0,C0⟩;have N2:=hv.gr g2;have m1:N<H2.nx:=by omega
 have m2:N+1<H2.nx:=by omega
 refine zW tyF ?_;refine zI tyF (fun hc=>?_) (fun hc=>?_)
 ·have D0:i<l.length:=by omega
  have ex:=zB4 D0;have Z0:=zC1 D0;have U2:=zC2 D0;have N0:l[i]∈l:=List.getElem_mem D0;generalize l[i]=x at ex Z0 U2 N0;have J1:=zC0 i (by omega);have hlen:(l.take i).length=i:=by rw[List.length_take];omega
  obtain ⟨id,g,off,cells,rfl,hid,T0,O0⟩:=N2.open (by omega);obtain ⟨p,q,w,hx⟩:=O0 i x ex;have y1:=hx.all;have y2:=hx.le;have hp:=hx.of1;have hq:=hx.of2;have hw:=hx.of3;have hBn:=hB.n x N0;have hBw:=hB.w x N0;clear hx O0 Z0 ex N0;replace U2:Hd _:=U2;replace hlen:Hd _:=hlen;refine zW tyF ?_;refine R1.dS fun K2 p1 p2 p3 p4=>?_;refine zG (qA tyF (ixC D0)) fun K3 Y4=>?_;refine Y4.out _ _ ?_;refine R1.gen (fun A4 H4=>Gr H2 H4∧H2.nx<H4.nx∧H4.get H2.nx=some (.arr [.i .i64 x.face,.i .i64 x.col,.i .i64 x.line,.i .i64 x.kind,p,q,.o (.str x.good),w] 69 0 0)∧slot A4.tm 4=.one ((.o (.ptr N 0 0 2)))∧slot A4.tm 5=.one ((.o (.ptr (N+1) 0 0 2)))∧slot A4.tm 7=.one ((.o (.ptr H2.nx 0 0 8)))∧slot A4.tm 10=.one ((.o (.sl id g off l.length 8)))∧slot A4.tm 11=.one (.i .i64 (l.length:Int))∧slot A4.tm 12=.one (.i .i64 (i:Int))∧A4.nt=25∧A4.dfr=[])
   ⟨((Fr.refl _).new _).mod _ (.inl (zA1 _)),zA6 _,aj rfl,zL⟩ ?_
  clear t4 t5 t10 t11 t12 B0 C0 A y1 y2 Y4 K3 T0 hid;rintro A H4 ⟨g4,mM,rM,t4,t5,t7,t10,t11,t12,B0,C0⟩;obtain ⟨M,hM⟩:∃ M,M=H2.nx:=⟨_,rfl⟩;rw[←hM] at mM rM t7;have nM:N+2≤M:=by omega
  clear hM;have r1:=(g4.get _ m1 zB2).trans r1;have m1:=zA0 m1 g4.nx;have r2:=(g4.get _ m2 zB2).trans r2;have m2:=zA0 m2 g4.nx;have ho4:=ho.gr dk dG g4;have g24:=g2.gr g4;have lo:=ho4.lt;clear ho g2 N2;refine zH (qA tyF Hj) fun K3 Y4=>?_;refine WE.Pm (Cr H4 x p q w (hp.gr g4) (hq.gr g4) (hw.gr g4) hBn hBw) fun w5 H5 g5 C3=>?_;obtain ⟨p',q',w',rfl,W2,l6⟩:=C3.open;have r1:=(g5.get _ m1 zB2).trans r1;have m1:=zA0 m1 g5.nx;have r2:=(g5.get _ m2 zB2).trans r2;have m2:=zA0 m2 g5.nx;have ho5:=ho4.gr dk dG g5;have g25:=g24.gr g5;have T3:∀ id∈jB [.i .i64 x.face,.i .i64 x.col,.i .i64 x.line,.i .i64 x.kind,p',q',.o (.str x.good),w'],¬id<N+2∧some id≠r:=fun id hid=>by
   have h1:=l6 id hid;refine ⟨by omega,fun e=>?_⟩;have:=(ho4.row id e.symm).2;omega
  obtain ⟨N6,v7,H7,r7,Q1,ho7,m7,hr7⟩:=ho5.push dk dG gV Vr hz.out L1.out (by decide) (fun i h=>by omega) rfl W2 T3 (by have:=hlen.out;omega);have r17:=(m7.get _ m1 fun e=>(ho5.row _ e).1 (by omega)).trans r1;have r27:=(m7.get _ m2 fun e=>(ho5.row _ e).1 (by omega)).trans r2;have m17:=zA0 m1 m7.nx;have m27:=zA0 m2 m7.nx;have g27:Gr H H7:=g25.then m7 fun q hq=>.inl (by have:=(ho5.row q hq).1;have:=hN.out;omega);have ho8:=ho7.fr dk dG (Y:=fun i=>i=N+1) (H':=H7.mod (N+1) (.arr [.o (.str n),v7] 26 0 0)) ((Fr.refl _).mod _ (.inr rfl)) fun i h=>.inl (by omega);rw[←U2.out] at ho8;have nx7:N+2≤H7.nx:=by omega
  have gm:=g27.mod (i:=N+1) (.arr [.o (.str n),v7] 26 0 0) (.inl (by have:=hN.out;omega));clear ho4 ho5 ho7 T3 l6 W2 C3 hp hq hw g24 g25 g5 g4 m7 hr7 r1 r2 g27 lo;replace ho8:Hd _:=ho8;replace gm:Hd _:=gm;refine zS (qA tyF mV) ?_;refine ⟨N6,?_⟩;refine zK tyF ?_;refine p1.out _ _ ?_;refine zW tyF ?_;exact ⟨l.length - (i+1),by omega,i+1,v7,some r7,rfl,D0,gm.out,nx7,(az (by omega)).trans r17,aj rfl,ho8.out,zL⟩
 have E3:i=l.length:=by omega
 subst E3;rw[List.take_length] at ho;have ho9:=(ho.fr dk dG (Y:=fun i=>i=N) (H':=H2.mod N (.arr [.o (.str n),v'] 26 0 0)) ((Fr.refl _).mod _ (.inr rfl)) fun i h=>.inl (by omega)).less (X':=fun i=>i<H.nx) fun i h=>by have:=hN.out;omega
 have gm:=g2.mod (i:=N) (.arr [.o (.str n),v'] 26 0 0) (.inl (by have:=hN.out;omega));have lo:=ho.lt;clear ho N2;replace ho9:Hd _:=ho9;replace gm:Hd _:=gm;refine zW tyF ?_;refine k2.out _ _ ?_;refine zW tyF ?_;exact ⟨_,_,fb (id:=N) (g:=0) lK (.inr rfl) (by simp only[ak,C0];rfl) (by simp only[aa,Nat.reduceEqDiff,reduceIte,t4]) (by rw[aj rfl];exact cy (zA1 _) (zA1 _)) (zA1 _) rfl,gm.out,fun lg=>⟨v',r,rfl,bx.lg Ud ho9.out lg⟩⟩
theorem gX:al Tryz.prog 53=true:=by kernel_rfl
def xp (t:Tb) (n:Int):Int:=if gM t≠0 then gM t else if n<0∨(t.2.length:Int)<n then 8 else 0
def slN (H:Hp) (alt:ad) (x y:AV):ad:=
 match x,y with
 | .one (.o .nilS),.one (.i .i64 (.ofNat 0))=>.val (.one (.o .nilS)) H
 | _,_=>alt
theorem Xe {H:Hp} {alt:ad}:slN H alt (.one (.o .nilS)) (.one (.i .i64 0))=.val (.one (.o .nilS)) H:=rfl
theorem tD {H:Hp} {sz:Nat} {lo hi:Option AV} {alt:ad}:cN H sz (.one (.o .nilS)) lo hi alt=alt:=rfl
theorem zd {tm:PT AV} {H:Hp} {d:Option Tmp} {x y:Operand} {ty:TypeId} {pos:String} {af:Array Edge} {g:Option (Nat×Bool)}:
  an Tryz.prog tm H ⟨d,.slice 24 x none (some y) none,ty,pos,af,g⟩=slN H (bD Tryz.prog tm H ⟨d,.slice 24 x none (some y) none,ty,pos,af,g⟩) (ev tm x) (ev tm y):=by
 unfold slN;split
 ·rename_i hx hy
  have vx:(ev tm x).val?=some (.slice none 0 0):=by rw[hx];rfl
  have vy:(ev tm y).val?=some (.int .i64 0):=by rw[hy];rfl
  have dx:aY (ev tm x)=.slice none 0 0:=by unfold aY;rw[vx]
  have dy:aY (ev tm y)=.int .i64 0:=by unfold aY;rw[vy]
  unfold an;have e1:((⟨d,.slice 24 x none (some y) none,ty,pos,af,g⟩:Oper).op.operands.toList.all fun x=>(ev tm x).val?.isSome)=true:=by
   show ([x,y].all fun x=>(ev tm x).val?.isSome)=true;simp only[List.all_cons,List.all_nil,vx,vy];rfl
  rw[e1];have e2:aw Tryz.prog (execOp (fun x=>aY (ev tm x)) ⟨d,.slice 24 x none (some y) none,ty,pos,af,g⟩)=some (.value (.slice none 0 0)):=by
   show aw Tryz.prog (Sem.bind (Instr.sliceAt 24 (aY (ev tm x)) none (some (aY (ev tm y))) none) fun v=>Sem.pure (Next.value v))=_;rw[dx,dy];kernel_rfl
  rw[e2];rfl
 rfl
theorem yg {tm:PT AV} {H:Hp} {d:Option Tmp} {x y:Operand} {ty:TypeId} {pos:String} {af:Array Edge} {g:Option (Nat×Bool)}:
  an Tryz.prog tm H ⟨d,.slice 24 x (some y) none none,ty,pos,af,g⟩=slN H (bD Tryz.prog tm H ⟨d,.slice 24 x (some y) none none,ty,pos,af,g⟩) (ev tm x) (ev tm y):=by
 unfold slN;split
 ·rename_i hx hy
  have vx:(ev tm x).val?=some (.slice none 0 0):=by rw[hx];rfl
  have vy:(ev tm y).val?=some (.int .i64 0):=by rw[hy];rfl
  have dx:aY (ev tm x)=.slice none 0 0:=by unfold aY;rw[vx]
  have dy:aY (ev tm y)=.int .i64 0:=by unfold aY;rw[vy]
  unfold an;have e1:((⟨d,.slice 24 x (some y) none none,ty,pos,af,g⟩:Oper).op.operands.toList.all fun x=>(ev tm x).val?.isSome)=true:=by
   show ([x,y].all fun x=>(ev tm x).val?.isSome)=true;simp only[List.all_cons,List.all_nil,vx,vy];rfl
  rw[e1];have e2:aw Tryz.prog (execOp (fun x=>aY (ev tm x)) ⟨d,.slice 24 x (some y) none none,ty,pos,af,g⟩)=some (.value (.slice none 0 0)):=by
   show aw Tryz.prog (Sem.bind (Instr.sliceAt 24 (aY (ev tm x)) (some (aY (ev tm y))) none none) fun v=>Sem.pure (Next.value v))=_;rw[dx,dy];kernel_rfl
  rw[e2];rfl
 rfl
theorem Rg {α β:Type} {R:β→α→Prop}:∀ (n:Nat) {cs:List β} {xs:List α},Al R cs xs→Al R (cs.drop n) (xs.drop n)
 | 0,_,_,h=>h
 | n+1,[],[],_=>trivial
 | n+1,[],_::_,h=>h.elim
 | n+1,_::_,[],h=>h.elim
 | n+1,_::_,_::_,h=>Rg n h.2
theorem wD {sz:Nat}:∀ (n:Nat) {css:List (List AC)},(∀ c∈css,c.length=sz)→(css.drop n).flatMap id=(css.flatMap id).drop (n*sz)
 | 0,css,_=>by rw[Nat.zero_mul];rfl
 | n+1,[],_=>by simp
 | n+1,c::css,h=>by
  have hc:c.length=sz:=h c (List.mem_cons_self ..);rw[List.drop_succ_cons,wD n fun x hx=>h x (List.mem_cons_of_mem _ hx),List.flatMap_cons,Nat.succ_mul];show _=(c++css.flatMap id).drop (n*sz+sz);rw[List.drop_append,hc,List.drop_of_length_le (by omega:c.length≤n*sz+sz),List.nil_append,Nat.add_sub_cancel]
theorem dg.Yd {H:Hp} {v:AC} {l:List Cs} (h:dg H v l):(v=.o .nilS∧l=[])∨∃ id g off,v=.o (.sl id g off l.length 8)∧id<H.nx:=by
 obtain ⟨css,h1,h2⟩:=h;rcases h1.2 with ⟨e,h0⟩|⟨id,g,off,e,hid,hr⟩
 ·exact .inl ⟨e,List.eq_nil_of_length_eq_zero h0⟩
 exact .inr ⟨id,g,off,e,hid⟩
theorem SlR.drop {α:Type} {R:Hp→List AC→α→Prop} {sz:Nat} {H:Hp} {id g off:Nat} {l:List α} (h:SlR R sz H (.o (.sl id g off l.length sz)) l) {n:Nat} (hn:n≤l.length):SlR R sz H (.o (.sl id g (off+n*sz) (l.length - n) sz)) (l.drop n):=by
 obtain ⟨css,h1,h2⟩:=h;have hl:(l.drop n).length=l.length - n:=List.length_drop;have R0:css.length=l.length:=h2.len;have hcn:(css.drop n).length=l.length - n:=by rw[List.length_drop];omega
 have hm:n*sz+(l.length - n)*sz=l.length*sz:=by rw[←Nat.add_mul];congr 1;omega
 have Y9:=kH h2.lens;refine ⟨css.drop n,⟨?_,?_⟩,Rg n h2⟩
 ·rw[kH fun c hc=>h2.lens c (List.mem_of_mem_drop hc),hcn,hl]
 rcases h1.2 with ⟨e,h0⟩|⟨id',g',off',e,hid,hr⟩
 ·cases e
 cases e
 right;refine ⟨id,g,off+n*sz,by rw[hl],hid,?_⟩;rw[hl,wD n h2.lens];have:=hr.part (n*sz) ((l.length - n)*sz) (by omega);rwa [List.take_of_length_le (by rw[List.length_drop,Y9,R0];omega)] at this
theorem Vq (H:Hp) (nm:List UInt8) (v:AC) (l:List Cs) (n:Int) (hv:dg H v l) (hB:TbB l):
  Con E2 19 [.agg [.o (.str nm),v],.one (.i .i64 n)] H (fun _=>False) fun r H'=>∃ va vb,r=.tup [(true,[.o (.str (if xp (nm,l) n=0 then nm else [])),va]),(true,[.o (.str (if xp (nm,l) n=0 then nm else [])),vb]),(false,[.i .i64 (xp (nm,l) n)])] ∧
   (xp (nm,l) n=0→∃ q r',bx CsR 8 69 (fun i=>i<H.nx) H' va (l.take n.toNat) q∧bx CsR 8 69 (fun i=>i<H.nx) H' vb (l.drop n.toNat) r')∧(xp (nm,l) n≠0→va=.o .nilS∧vb=.o .nilS):=by
 generalize T2:xp (nm,l) n=e0;refine Con.of rfl fun lg=>?_;have hv:dg ⟨H.t,H.nx,lg⟩ v l:=hv;have e0:H.nx=(⟨H.t,H.nx,lg⟩:Hp).nx:=rfl;rw[e0];clear e0;generalize (⟨H.t,H.nx,lg⟩:Hp)=H at hv ⊢;refine C1.body (E:=E2) (nt:=40) (res:=[.cell 4 26,.cell 5 26,.tmp 6]) Tryz.func19 rfl rfl rfl rfl rfl fun tm A0=>?_;have h0:=A0 0 _ rfl;have h1:=A0 1 _ rfl;clear A0;replace T2:Hd _:=T2;have hl:l.length*120≤140737488355328:=hB.c;have lv:=hv.lt;refine zG tyF fun K hK=>?_;refine hK.out _ _ ?_;refine R1.gen (fun A1 H1=>Gr H H1∧H.nx+2<H1.nx∧H1.get H.nx=some (.arr [.o (.str nm),v] 26 0 0)∧H1.get (H.nx+1)=some (.arr [.o (.str []),.o .nilS] 26 0 0)∧H1.get (H.nx+2)=some (.arr [.o (.str []),.o .nilS] 26 0 0)∧slot A1.tm 1=.one ((.i .i64 n))∧slot A1.tm 2=.one ((.o (.ptr H.nx 0 0 2)))∧slot A1.tm 4=.one ((.o (.ptr (H.nx+1) 0 0 2)))∧slot A1.tm 5=.one ((.o (.ptr (H.nx+2) 0 0 2)))∧slot A1.tm 6=.one ((.i .i64 0))∧A1.nt=40∧A1.dfr=[])
  ⟨(((Fr.refl _).new _).new _).new _,by show H.nx+2<H.nx+1+1+1;omega,by rw[aZ (by show H.nx<H.nx+1+1;omega),aZ (by show H.nx<H.nx+1;omega)];exact aG rfl,by rw[aZ (by show H.nx+1<H.nx+1+1;omega)];exact aG rfl,aG rfl,zL⟩ ?_
 clear h0 h1 tm hK K lv;rintro A1 H1 ⟨g1,n2,r0,r1,r2,t1,t2,t4,t5,t6,B0,C0⟩;obtain ⟨N,hN⟩:∃ N,N=H.nx:=⟨_,rfl⟩;rw[←hN] at n2 r0 r1 r2 t2 t4 t5;replace hN:Hd _:=hN;have m0:N<H1.nx:=by omega
 have m1:N+1<H1.nx:=by omega
 have D2:=hv.gr g1;have lv:=D2.lt;refine zG (qA tyF pf) fun K hK=>?_;refine WE.con (np H1 nm v l D2 hB) fun w2 H2 g2 P2=>?_;subst P2;have r0:=(g2.get _ m0 zB2).trans r0;have m0:=zA0 m0 g2.nx;have r1:=(g2.get _ m1 zB2).trans r1;have m1:=zA0 m1 g2.nx;have r2:=(g2.get _ n2 zB2).trans r2;have n2:=zA0 n2 g2.nx;have N2:=D2.gr g2;have g12:=g1.gr g2;clear g1 g2 D2 lv;have lv:=N2.lt;have ll:=N2.len;have he:=T2.out;unfold xp at he;clear T2;have fin:∀ (sn:List UInt8) (va vb:AC) (A:ab) (H9:Hp),slot A.tm 4=.one (.o (.ptr (N+1) 0 0 2))→slot A.tm 5=.one (.o (.ptr (N+2) 0 0 2))→slot A.tm 6=.one (.i .i64 e0)→closeAll H9 A.dfr=some H9→H9.get (N+1)=some (.arr [.o (.str sn),va] 26 0 0)→H9.get (N+2)=some (.arr [.o (.str sn),vb] 26 0 0)→Gr H H9→sn=(if e0=0 then nm else []) →
   (e0=0→∃ q r',bx CsR 8 69 (fun i=>i<H.nx) H9 va (l.take n.toNat) q∧bx CsR 8 69 (fun i=>i<H.nx) H9 vb (l.drop n.toNat) r')→(e0≠0→va=.o .nilS∧vb=.o .nilS) →
   ∃ w H4,aC E2 [.cell 4 26,.cell 5 26,.tmp 6] (.ret,A,H9)=.ok [(w,H4)]∧Gr H H4∧∀ lg:List Nat,∃ va vb,w=.tup [(true,[.o (.str (if e0=0 then nm else [])),va]),(true,[.o (.str (if e0=0 then nm else [])),vb]),(false,[.i .i64 e0])] ∧
    (e0=0→∃ q r',bx CsR 8 69 (fun i=>i<H.nx) ⟨H4.t,H4.nx,lg⟩ va (l.take n.toNat) q∧bx CsR 8 69 (fun i=>i<H.nx) ⟨H4.t,H4.nx,lg⟩ vb (l.drop n.toNat) r')∧(e0≠0→va=.o .nilS∧vb=.o .nilS):=fun sn va vb A H9 s4 s5 s6 hd r1 r2 hg hsn ho hz=>
  ⟨_,H9,cE (.inr rfl) hd (qN lK s4 (by rw[r1];exact Nd) (zA1 _) rfl (qN lK s5 (by rw[r2];exact Nd) (zA1 _) rfl (BT s6 Jl))),hg,fun lg=>⟨va,vb,by rw[←hsn];rfl,fun h=>by
   obtain ⟨q,r',a,b⟩:=ho h;exact ⟨q,r',bx.lg Ud a lg,bx.lg Ud b lg⟩,hz⟩⟩
 by_cases q1:gM (nm,l)=0
 case neg=>
  rw[zB0 q1] at he;have e1:(e0==0)=false:=zB5 (by rw[←he];exact q1);rw[he];have g9:=(g12.mod (i:=N+1) (.arr [.o (.str []),.o .nilS] 26 0 0) (.inl (by have:=hN.out;omega))).mod (i:=N+2) (.arr [.o (.str []),.o .nilS] 26 0 0) (.inl (by have:=hN.out;omega));have Y0:e0≠0:=by rw[←he];exact q1
  replace Y0:Hd _:=Y0;replace g9:Hd _:=g9;clear q1 he;refine zE tyF ?_;refine zR tyF ?_;refine zX tyF ?_;repeat refine R1.aA ?_
  repeat refine R1.aA ?_
  (first|refine R1.mq (ms:=[0,0,0,1,11,31]) (by kernel_rfl) (by kernel_rfl) fun K hK=>?_|refine R1.lZ (ms:=[0,0,0,1,11,31]) (by kernel_rfl) (by kernel_rfl) fun K hK=>?_)
  simp (config:={decide:=true}) only [qB,aq,Nat.reduceLT,Nat.reduceEqDiff,Nat.reduceLeDiff,reduceIte,Nat.reduceAdd,Nat.reduceSub,Nat.reduceMul,Int.reduceLT,Int.reduceLE,Int.reduceBEq,qD,bJ,bQ,aR,reduceCtorEq,ae,t4,t5,B0,r1,m1,r2,n2,lK,oQ]
  refine hK _ _ ?_;clear hK K;refine qV ?_;exact fin [] (.o .nilS) (.o .nilS) _ _ (by simp only[aa,Nat.reduceEqDiff,reduceIte,t4]) (by simp only[aa,Nat.reduceEqDiff,reduceIte,t5]) qp (by simp only[ak,C0];rfl) ((az (by omega)).trans (aj rfl)) (aj rfl) g9.out (zB1 Y0.out).symm (fun h=>absurd h Y0.out) fun _=>⟨rfl,rfl⟩
 rw[zB1 (fun h=>h q1)] at he;rw[q1];by_cases q2:n<0∨(l.length:Int)<n
 ·rw[zB0 (by exact q2)] at he;have g9:=(g12.mod (i:=N+1) (.arr [.o (.str []),.o .nilS] 26 0 0) (.inl (by have:=hN.out;omega))).mod (i:=N+2) (.arr [.o (.str []),.o .nilS] 26 0 0) (.inl (by have:=hN.out;omega));subst he;replace g9:Hd _:=g9;clear q1;by_cases q3:n<0
  ·clear q2;refine zE tyF ?_;refine zR tyF ?_;refine zX tyF ?_;refine R1.bg ?_;refine zR tyF ?_;refine zX tyF ?_;repeat refine R1.aA ?_
   repeat refine R1.aA ?_
   (first|refine R1.mq (ms:=[0,0,1,7,15]) (by kernel_rfl) (by kernel_rfl) fun K hK=>?_|refine R1.lZ (ms:=[0,0,1,7,15]) (by kernel_rfl) (by kernel_rfl) fun K hK=>?_)
   simp (config:={decide:=true}) only [qB,aq,Nat.reduceLT,Nat.reduceEqDiff,Nat.reduceLeDiff,reduceIte,Nat.reduceAdd,Nat.reduceSub,Nat.reduceMul,Int.reduceLT,Int.reduceLE,Int.reduceBEq,qD,bJ,bQ,aR,reduceCtorEq,ae,t4,t5,B0,r1,m1,r2,n2,lK,oQ]
   refine hK _ _ ?_;clear hK K;refine qV ?_;exact fin [] (.o .nilS) (.o .nilS) _ _ (by simp only[aa,Nat.reduceEqDiff,reduceIte,t4]) (by simp only[aa,Nat.reduceEqDiff,reduceIte,t5]) qp (by simp only[ak,C0];rfl) ((az (by omega)).trans (aj rfl)) (aj rfl) g9.out rfl (fun h=>absurd h (by decide)) fun _=>⟨rfl,rfl⟩
  have q4:(l.length:Int)<n:=q2.resolve_left q3;clear q2;refine zE tyF ?_;refine zR tyF ?_;refine zX tyF ?_;refine R1.bg ?_;refine zR tyF ?_;refine zX tyF ?_;repeat refine R1.aA ?_
  repeat refine R1.aA ?_
  (first|refine R1.mq (ms:=[0,0,1,7,15]) (by kernel_rfl) (by kernel_rfl) fun K hK=>?_|refine R1.lZ (ms:=[0,0,1,7,15]) (by kernel_rfl) (by kernel_rfl) fun K hK=>?_)
  simp (config:={decide:=true}) only [qB,aq,Nat.reduceLT,Nat.reduceEqDiff,Nat.reduceLeDiff,reduceIte,Nat.reduceAdd,Nat.reduceSub,Nat.reduceMul,Int.reduceLT,Int.reduceLE,Int.reduceBEq,qD,bJ,bQ,aR,reduceCtorEq,ae,t4,t5,B0,r1,m1,r2,n2,lK,oQ]
  refine hK _ _ ?_;clear hK K;refine qV ?_;exact fin [] (.o .nilS) (.o .nilS) _ _ (by simp only[aa,Nat.reduceEqDiff,reduceIte,t4]) (by simp only[aa,Nat.reduceEqDiff,reduceIte,t5]) qp (by simp only[ak,C0];rfl) ((az (by omega)).trans (aj rfl)) (aj rfl) g9.out rfl (fun h=>absurd h (by decide)) fun _=>⟨rfl,rfl⟩
 rw[zB1 (by exact q2)] at he;subst he;have q3:¬n<0:=fun h=>q2 (.inl h);have q4:¬(l.length:Int)<n:=fun h=>q2 (.inr h);obtain ⟨k,hk⟩:∃ k:Nat,n=(k:Int):=⟨n.toNat,by omega⟩;subst hk;have G6:k≤l.length:=by omega
 rw[Int.toNat_natCast] at fin;clear q1 q2;refine zK tyF ?_;rcases N2.Yd with ⟨rfl,hz⟩|hz
 ·have hv0:dg H2 (.o .nilS) (l.take k):=by rw[hz,List.take_nil];rw[hz] at N2;exact N2
  have D2:dg H2 (.o .nilS) (l.drop k):=by rw[hz,List.drop_nil];rw[hz] at N2;exact N2
  have U7:l.length=0:=by rw[hz];rfl
  have hk0:k=0:=by omega
  subst hk0;repeat refine R1.aA ?_
  repeat refine R1.aA ?_
  (first|refine R1.mq (ms:=[0,1,0,4,0,28,63,0,128,0,512,0,3584,8191,16383,32767,65535]) (by kernel_rfl) (by kernel_rfl) fun K hK=>?_|refine R1.lZ (ms:=[0,1,0,4,0,28,63,0,128,0,512,0,3584,8191,16383,32767,65535]) (by kernel_rfl) (by kernel_rfl) fun K hK=>?_)
  simp (config:={decide:=true}) only [qB,aq,Nat.reduceLT,Nat.reduceEqDiff,Nat.reduceLeDiff,reduceIte,Nat.reduceAdd,Nat.reduceSub,Nat.reduceMul,Int.reduceLT,Int.reduceLE,Int.reduceBEq,qD,bJ,bQ,aR,reduceCtorEq,ae,t1,t2,B0,r0,m0,kM,iX,aQ,ju,gV,gX,Xe,tD,@zd,@yg,Mo]
  refine jI (fun r H'=>∃ v' q,r=.agg [.o (.str nm),v']∧bx CsR 8 69 (fun i=>i<H2.nx) H' v' (l.take 0) q) (fun v h1 h2 hg ⟨v',q,a,b⟩=>⟨v',q,a,b.gr dk dG hg⟩) ?_ (fun h hg hn=>by have:=fO h nm (.o .nilS) (l.take 0) (hv0.gr hg) (hB.take 0);rw[hn] at this;exact this) ?_
  ·exact unU (by simp (config:={decide:=true}) only [aR,if_true])
  rintro w3 kx H3 ⟨va,q,rfl,hoa⟩ hkx hn3 g3;subst hn3;have r0:=(g3.get _ m0 zB2).trans r0;have m0:=zA0 m0 g3.nx;have r1:=(g3.get _ m1 zB2).trans r1;have m1:=zA0 m1 g3.nx;have r2:=(g3.get _ n2 zB2).trans r2;have n2:=zA0 n2 g3.nx;have m03:=m0;have t_:=D2.gr g3;have m02:N<H2.nx:=by assumption
  simp (config:={decide:=true}) only [qB,aq,Nat.reduceLT,Nat.reduceEqDiff,Nat.reduceLeDiff,reduceIte,Nat.reduceAdd,Nat.reduceSub,Nat.reduceMul,Int.reduceLT,Int.reduceLE,Int.reduceBEq,qD,bJ,bQ,aR,reduceCtorEq,ae,t1,t2,B0,r0,m0,m02,kM,iX,aQ,ju,gV,gX,Xe,tD,@zd,@yg,Mo]
  refine jI (fun r H'=>∃ v' q,r=.agg [.o (.str nm),v']∧bx CsR 8 69 (fun i=>i<H3.nx) H' v' (l.drop 0) q) (fun v h1 h2 hg ⟨v',q,a,b⟩=>⟨v',q,a,b.gr dk dG hg⟩) ?_ (fun h hg hn=>by have:=fO h nm (.o .nilS) (l.drop 0) (t_.gr hg) (hB.drop 0);rw[hn] at this;exact this) ?_
  ·exact unU (by simp (config:={decide:=true}) only [aR,if_true])
  rintro w4 kx H4 ⟨vb,q',rfl,P5⟩ hkx hn4 g4;subst hn4;have m13:=m1;have m23:=n2;have r1:=(g4.get _ m1 zB2).trans r1;have m1:=zA0 m1 g4.nx;have r2:=(g4.get _ n2 zB2).trans r2;have n2:=zA0 n2 g4.nx;have hoa4:=hoa.gr dk dG g4;have n23:=g3.nx;have b2:N+2<H2.nx:=by assumption
  have keep:Fr (fun j=>j=N+1∨j=N+2) H4 ((H4.mod (N+1) (.arr [.o (.str nm),va] 26 0 0)).mod (N+2) (.arr [.o (.str nm),vb] 26 0 0)):=((Fr.refl _).mod _ (.inr (.inl rfl))).mod _ (.inr (.inr rfl));have J':H.nx≤N+1:=by have:=hN.out;omega
  have hN2:H.nx≤N+2:=by omega
  have hle:H.nx≤H2.nx:=by omega
  have ka:=(hoa4.fr dk dG keep fun j hj=>.inl (by omega)).less (X':=fun j=>j<H.nx) fun j hj=>by omega
  have kb:=(P5.fr dk dG keep fun j hj=>.inl (by omega)).less (X':=fun j=>j<H.nx) fun j hj=>by omega
  have g9:=(((g12.gr g3).gr g4).mod (i:=N+1) (.arr [.o (.str nm),va] 26 0 0) (.inl J')).mod (i:=N+2) (.arr [.o (.str nm),vb] 26 0 0) (.inl hN2);simp (config:={decide:=true}) only [qB,aq,Nat.reduceLT,Nat.reduceEqDiff,Nat.reduceLeDiff,reduceIte,Nat.reduceAdd,Nat.reduceSub,Nat.reduceMul,Int.reduceLT,Int.reduceLE,Int.reduceBEq,qD,bJ,bQ,aR,reduceCtorEq,ae,t4,t5,B0,r1,m1,r2,n2,m13,m23,oQ]
  refine hK _ _ ?_;clear hK K;refine qV ?_;exact fin nm va vb _ _ (by simp only[aa,Nat.reduceEqDiff,reduceIte,t4]) (by simp only[aa,Nat.reduceEqDiff,reduceIte,t5]) qp (by simp only[ak,C0];rfl) ((az (by omega)).trans (aj rfl)) (aj rfl) g9 rfl (fun _=>⟨q,q',ka,kb⟩) fun h=>absurd rfl h
 obtain ⟨id,g,off,rfl,hid⟩:=hz;have p6:dg H2 (.o (.sl id g off k 8)) (l.take k):=SlR.take N2 G6;have C':dg H2 (.o (.sl id g (off+k*8) (l.length - k) 8)) (l.drop k):=SlR.drop N2 G6;repeat refine R1.aA ?_
 repeat refine R1.aA ?_
 (first|refine R1.mq (ms:=[0,1,0,4,0,28,63,0,128,0,512,0,3584,8191,16383,32767,65535]) (by kernel_rfl) (by kernel_rfl) fun K hK=>?_|refine R1.lZ (ms:=[0,1,0,4,0,28,63,0,128,0,512,0,3584,8191,16383,32767,65535]) (by kernel_rfl) (by kernel_rfl) fun K hK=>?_)
 simp (config:={decide:=true}) only [qB,aq,Nat.reduceLT,Nat.reduceEqDiff,Nat.reduceLeDiff,reduceIte,Nat.reduceAdd,Nat.reduceSub,Nat.reduceMul,Int.reduceLT,Int.reduceLE,Int.reduceBEq,qD,bJ,bQ,aR,reduceCtorEq,ae,t1,t2,B0,r0,m0,kM,iX,aQ,ju,gV,gX,slH G6,slL G6]
 refine jI (fun r H'=>∃ v' q,r=.agg [.o (.str nm),v']∧bx CsR 8 69 (fun i=>i<H2.nx) H' v' (l.take k) q) (fun v h1 h2 hg ⟨v',q,a,b⟩=>⟨v',q,a,b.gr dk dG hg⟩) ?_ (fun h hg hn=>by have:=fO h nm (.o (.sl id g off k 8)) (l.take k) (p6.gr hg) (hB.take k);rw[hn] at this;exact this) ?_
 ·exact unU (by simp (config:={decide:=true}) only [aR,if_true])
 rintro w3 kx H3 ⟨va,q,rfl,hoa⟩ hkx hn3 g3;subst hn3;have r0:=(g3.get _ m0 zB2).trans r0;have m0:=zA0 m0 g3.nx;have r1:=(g3.get _ m1 zB2).trans r1;have m1:=zA0 m1 g3.nx;have r2:=(g3.get _ n2 zB2).trans r2;have n2:=zA0 n2 g3.nx;have m03:=m0;have t_:=C'.gr g3;have m02:N<H2.nx:=by assumption
 simp (config:={decide:=true}) only [qB,aq,Nat.reduceLT,Nat.reduceEqDiff,Nat.reduceLeDiff,reduceIte,Nat.reduceAdd,Nat.reduceSub,Nat.reduceMul,Int.reduceLT,Int.reduceLE,Int.reduceBEq,qD,bJ,bQ,aR,reduceCtorEq,ae,t1,t2,B0,r0,m0,m02,kM,iX,aQ,ju,gV,gX,slH G6,slL G6]
 refine jI (fun r H'=>∃ v' q,r=.agg [.o (.str nm),v']∧bx CsR 8 69 (fun i=>i<H3.nx) H' v' (l.drop k) q) (fun v h1 h2 hg ⟨v',q,a,b⟩=>⟨v',q,a,b.gr dk dG hg⟩) ?_ (fun h hg hn=>by have:=fO h nm (.o (.sl id g (off+k*8) (l.length - k) 8)) (l.drop k) (t_.gr hg) (hB.drop k);rw[hn] at this;exact this) ?_
 ·exact unU (by simp (config:={decide:=true}) only [aR,if_true])
 rintro w4 kx H4 ⟨vb,q',rfl,P5⟩ hkx hn4 g4;subst hn4;have m13:=m1;have m23:=n2;have r1:=(g4.get _ m1 zB2).trans r1;have m1:=zA0 m1 g4.nx;have r2:=(g4.get _ n2 zB2).trans r2;have n2:=zA0 n2 g4.nx;have hoa4:=hoa.gr dk dG g4;have n23:=g3.nx;have b2:N+2<H2.nx:=by assumption
 have keep:Fr (fun j=>j=N+1∨j=N+2) H4 ((H4.mod (N+1) (.arr [.o (.str nm),va] 26 0 0)).mod (N+2) (.arr [.o (.str nm),vb] 26 0 0)):=((Fr.refl _).mod _ (.inr (.inl rfl))).mod _ (.inr (.inr rfl));have J':H.nx≤N+1:=by have:=hN.out;omega
 have hN2:H.nx≤N+2:=by omega
 have hle:H.nx≤H2.nx:=by omega
 have ka:=(hoa4.fr dk dG keep fun j hj=>.inl (by omega)).less (X':=fun j=>j<H.nx) fun j hj=>by omega
 have kb:=(P5.fr dk dG keep fun j hj=>.inl (by omega)).less (X':=fun j=>j<H.nx) fun j hj=>by omega
 have g9:=(((g12.gr g3).gr g4).mod (i:=N+1) (.arr [.o (.str nm),va] 26 0 0) (.inl J')).mod (i:=N+2) (.arr [.o (.str nm),vb] 26 0 0) (.inl hN2);simp (config:={decide:=true}) only [qB,aq,Nat.reduceLT,Nat.reduceEqDiff,Nat.reduceLeDiff,reduceIte,Nat.reduceAdd,Nat.reduceSub,Nat.reduceMul,Int.reduceLT,Int.reduceLE,Int.reduceBEq,qD,bJ,bQ,aR,reduceCtorEq,ae,t4,t5,B0,r1,m1,r2,n2,m13,m23,oQ]
 refine hK _ _ ?_;clear hK K;refine qV ?_;exact fin nm va vb _ _ (by simp only[aa,Nat.reduceEqDiff,reduceIte,t4]) (by simp only[aa,Nat.reduceEqDiff,reduceIte,t5]) qp (by simp only[ak,C0];rfl) ((az (by omega)).trans (aj rfl)) (aj rfl) g9 rfl (fun _=>⟨q,q',ka,kb⟩) fun h=>absurd rfl h
theorem Tj:al Tryz.prog 141=true:=by kernel_rfl
theorem VG:al Tryz.prog 177=true:=by kernel_rfl
def sP:Nat→List (List UInt8)→List UInt8→Int
 | _,[],_=>-1
 | n,x::l,s=>if s=x then (n:Int) else sP (n+1) l s
theorem HT:∀ (n:Nat) (l:List (List UInt8)) (s:List UInt8),decide (0≤sP n l s)=l.contains s
 | _,[],_=>rfl
 | n,x::l,s=>by
  unfold sP;rw[List.contains_cons];by_cases h:s=x
  ·subst h;rw[zB0 rfl,beq_self_eq_true,Bool.true_or];exact decide_eq_true (by omega)
  rw[zB1 h,zB5 h,Bool.false_or];exact HT (n+1) l s
def jt (g:Gd) (s:List UInt8):Bool:=if g.2.2=[] then g.1==s else g.2.2.contains s
theorem Pa (H:Hp) (v:AC) (l:List (List UInt8)) (s:List UInt8) (hv:SlS H v l) (hL:l.length≤4611686018427387904):Con E2 177 [.one v,.one (.o (.str s))] H (fun _=>False) fun r _=>r=.one (.i .i64 (sP 0 l s)):=by
 refine Con.of rfl fun lg=>?_;have hv:SlS ⟨H.t,H.nx,lg⟩ v l:=hv;generalize (⟨H.t,H.nx,lg⟩:Hp)=H at hv ⊢;refine C1.body (E:=E2) (nt:=19) (res:=[.tmp 4]) Tryz.func177 rfl rfl rfl rfl rfl fun tm A0=>?_;have h0:=A0 0 _ rfl;have h1:=A0 1 _ rfl;clear A0;have fin:∀ (e:Int) (A:ab) (H3:Hp),slot A.tm 4=.one (.i .i64 e)→A.dfr=[]→Gr H H3→e=sP 0 l s→∃ w H4,aC E2 [.tmp 4] (.ret,A,H3)=.ok [(w,H4)]∧Gr H H4∧∀ _:List Nat,w=.one (.i .i64 (sP 0 l s)):=fun e A H3 h1 h2 h3 h4=>⟨_,H3,ai (.i .i64 e) (.inr rfl) h2 h1,h3,fun _=>by rw[h4]⟩;generalize E0:sP 0 l s=r0 at fin;have l1:=hv.len;have l2:=hv.lt;replace E0:Hd _:=E0;refine zW tyF ?_;refine R1.dS fun K k1 k2 k3 k4=>?_;refine R1.loop (fun z A H3=>∃ i:Nat,z=l.length - i∧i≤l.length∧H3=H∧Hd (sP i (l.drop i) s=r0)∧slot A.tm 0=.one (v)∧slot A.tm 1=.one ((.o (.str s)))∧slot A.tm 6=.one (v)∧slot A.tm 7=.one (.i .i64 (l.length:Int))∧slot A.tm 8=.one (.i .i64 (i:Int))∧A.nt=19∧A.dfr=[]) ?_ l.length
  ⟨0,rfl,Nat.zero_le _,rfl,E0,zL⟩
 clear h0 h1 E0 tm l1 l2 k3;rintro z A H3 ⟨i,rfl,hi,rfl,hr,t0,t1,t6,t7,t8,B0,C0⟩;refine zW tyF ?_;refine zI tyF (fun hc=>?_) (fun hc=>?_)
 ·have D0:i<l.length:=by omega
  have ex:=zB4 D0;have Z0:=zC1 D0;have U2:=zC2 D0;have N0:l[i]∈l:=List.getElem_mem D0;generalize l[i]=x at ex Z0 U2 N0;have J1:=zC0 i (by omega);obtain ⟨id,g,off,cells,rfl,hid,T0,O0⟩:=hv.open (by omega);obtain ⟨y1,y2⟩:=O0 i x ex;have F0:=hr.out;rw[Z0,sP] at F0;clear O0 N0 U2 Z0 hr ex;refine zW tyF ?_;refine R1.dS fun K2 p1 p2 p3 p4=>?_;by_cases q:s=x
  ·have hn:(i:Int)=r0:=by rw[←F0];exact (zB0 q).symm
   subst q;have es:(s==s)=true:=beq_self_eq_true s;have es2:lEq s s=true:=(cM s s).trans (beq_self_eq_true s);replace hn:Hd _:=hn;clear F0;refine zW (qA tyF (ixC D0)) ?_;exact p4.out _ _ (k4.out _ _ (fin ((i:Int)) _ _ qp qe (Fr.refl _) (hn.out)))
  have hn:sP (i+1) (l.drop (i+1)) s=r0:=by rw[←F0];exact (zB1 q).symm
  have es:(s==x)=false:=zB5 q;have es2:lEq s x=false:=by rw[cM];exact es
  replace hn:Hd _:=hn;clear F0 q;refine zW (qA tyF (ixC D0)) ?_;refine p1.out _ _ ?_;refine zW tyF ?_;exact ⟨l.length - (i+1),by omega,i+1,rfl,D0,rfl,hn,zL⟩
 have he:i=l.length:=by omega
 subst he;have hn:=hr.out;rw[List.drop_length,sP] at hn;replace hn:Hd _:=hn;clear hr;refine zW tyF ?_;refine k2.out _ _ ?_;refine zW tyF ?_;exact fin (-1) _ _ qp qe (Fr.refl _) (hn.out)
theorem Oi (H:Hp) (v:AC) (l:List (List UInt8)) (s:List UInt8) (hv:SlS H v l) (hL:l.length≤4611686018427387904):Con E2 141 [.one v,.one (.o (.str s))] H (fun _=>False) fun r _=>r=.one (.b (l.contains s)):=by
 refine Con.of rfl fun lg=>?_;have hv:SlS ⟨H.t,H.nx,lg⟩ v l:=hv;generalize (⟨H.t,H.nx,lg⟩:Hp)=H at hv ⊢;refine C1.body (E:=E2) (nt:=9) (res:=[.tmp 4]) Tryz.func141 rfl rfl rfl rfl rfl fun tm A0=>?_;have h0:=A0 0 _ rfl;have h1:=A0 1 _ rfl;clear A0;have fin:∀ (e:Bool) (A:ab) (H3:Hp),slot A.tm 4=.one (.b e)→A.dfr=[]→Gr H H3→e=l.contains s→∃ w H4,aC E2 [.tmp 4] (.ret,A,H3)=.ok [(w,H4)]∧Gr H H4∧∀ _:List Nat,w=.one (.b (l.contains s)):=fun e A H3 h1 h2 h3 h4=>⟨_,H3,ai (.b e) (.inr rfl) h2 h1,h3,fun _=>by rw[h4]⟩;generalize E0:l.contains s=r0 at fin;have l2:=hv.lt;have hn:decide (0≤sP 0 l s)=r0:=(HT 0 l s).trans E0;replace hn:Hd _:=hn;clear E0;refine zW tyF ?_;refine zG (qA tyF VG) fun K hK=>?_;refine WE.con (Pa H v l s hv hL) fun w2 H2 g2 P2=>?_;subst P2;refine zK tyF ?_;exact fin (decide (0≤sP 0 l s)) _ _ qp qe (g2) (hn.out)
theorem Ns (H:Hp) (g:Gd) (u:AC) (s:List UInt8) (hu:SlS H u g.2.2) (hL:g.2.2.length≤4611686018427387904):Con E2 79 [.agg [.o (.str g.1),.o (.str g.2.1),u],.one (.o (.str s))] H (fun _=>False) fun r _=>r=.one (.b (jt g s)):=by
 refine Con.of rfl fun lg=>?_;have hu:SlS ⟨H.t,H.nx,lg⟩ u g.2.2:=hu;generalize (⟨H.t,H.nx,lg⟩:Hp)=H at hu ⊢;refine C1.body (E:=E2) (nt:=17) (res:=[.tmp 4]) Tryz.func79 rfl rfl rfl rfl rfl fun tm A0=>?_;have h0:=A0 0 _ rfl;have h1:=A0 1 _ rfl;clear A0;have fin:∀ (e:Bool) (A:ab) (H3:Hp),slot A.tm 4=.one (.b e)→A.dfr=[]→Gr H H3→e=jt g s→∃ w H4,aC E2 [.tmp 4] (.ret,A,H3)=.ok [(w,H4)]∧Gr H H4∧∀ _:List Nat,w=.one (.b (jt g s)):=fun e A H3 h1 h2 h3 h4=>⟨_,H3,ai (.b e) (.inr rfl) h2 h1,h3,fun _=>by rw[h4]⟩;generalize E0:jt g s=r0 at fin;obtain ⟨gn,gl,go⟩:=g;have l2:=hu.lt;replace E0:Hd _:=E0;refine zG tyF fun K hK=>?_;refine hK.out _ _ ?_;refine R1.gen (fun A1 H1=>Gr H H1∧H.nx<H1.nx∧H1.get H.nx=some (.arr [.o (.str gn),.o (.str gl),u] 104 0 0)∧slot A1.tm 1=.one ((.o (.str s)))∧slot A1.tm 2=.one ((.o (.ptr H.nx 0 0 3)))∧A1.nt=17∧A1.dfr=[])
  ⟨(Fr.refl _).new _,zA6 _,aG rfl,zL⟩ ?_
 clear h0 h1 tm hK K l2;rintro A1 H1 ⟨g1,m1,rx,t1,t2,B0,C0⟩;obtain ⟨N,hN⟩:∃ N,N=H.nx:=⟨_,rfl⟩;rw[←hN] at m1 rx t2;clear hN;have hu:=hu.gr g1;have l1:=hu.len;have l2:=hu.lt;by_cases q:go=[]
 ·have hn:lEq gn s=r0:=by rw[←E0.out,cM];exact (zB0 (by exact q)).symm
  subst q;replace hn:Hd _:=hn;have e0:(((([]:List (List UInt8)).length:Nat):Int)==0)=true:=rfl;clear E0;refine zW tyF ?_;exact fin (lEq gn s) _ _ qp qe (g1) (hn.out)
 have hn:go.contains s=r0:=by rw[←E0.out];exact (zB1 (by exact q)).symm
 have e0:((go.length:Int)==0)=false:=zB5 fun h=>q (List.eq_nil_of_length_eq_zero (by omega));replace hn:Hd _:=hn;clear E0 q;refine zW tyF ?_;refine zG (qA tyF Tj) fun K hK=>?_;refine WE.con (Oi H1 u go s hu hL) fun w2 H2 g2 P2=>?_;subst P2;refine zK tyF ?_;exact fin (go.contains s) _ _ qp qe (g1.gr g2) (hn.out)
def ke (gs:List Gd) (s:List UInt8):Gd:=(gs[(dO 0 gs s).toNat]?).getD ([],[],[])
def aL (gs:List Gd):Nat→List Cs→List (Cl×Int)→List (Cl×Int)×Int
 | _,[],acc=>(acc,0)
 | i,c::cs,acc=>
  if c.kind=4∨c.good=[] then aL gs (i+1) cs acc else if dO 0 gs c.good<0 then ([],4) else if c.kind=1∧(ke gs c.good).2.2≠[] then ([],52) else if acc.length=64 then ([],3) else
  aL gs (i+1) cs (acc++[(((i:Int),c.good,(ke gs c.good).2.1,c.num),c.kind)])
def fW (key:List UInt8×Int):Nat→Nat→List (Cl×Int)→Nat
 | _,a,[]=>a
 | n,a,x::l=>fW key (n+1) (if x.1.2.1=key.1∧x.2=key.2 then n+1 else a) l
def jY (g:Gd) (fr:Nat):Nat→List (Cl×Int)→List Int
 | _,[]=>[]
 | n,x::l=>if fr≤n∧x.2=1∧jt g x.1.2.1=true then (n:Int)::jY g fr (n+1) l else jY g fr (n+1) l
def mj (gs:List Gd) (pre:List (Cl×Int)) (x:Cl×Int):List Rl:=if x.2=1 then [] else [((pre.length:Int),jY (ke gs x.1.2.1) (fW (x.1.2.1,x.2) 0 0 pre) 0 pre)]
def ir (gs:List Gd):List (Cl×Int)→List (Cl×Int)→List Rl
 | _,[]=>[]
 | pre,x::l=>mj gs pre x++ir gs (pre++[x]) l
def bt:Nat→List (Cl×Int)→List Int
 | _,[]=>[]
 | n,x::l=>if x.2=1 then (n:Int)::bt (n+1) l else bt (n+1) l
def jl (o:Option (List Lad)) (gs:List Gd) (t:Tb):Int:=if mF o gs≠0 then mF o gs else if gM t≠0 then gM t else (aL gs 0 t.2 []).2
def ig (o:Option (List Lad)) (gs:List Gd) (t:Tb):List (Cl×Int):=if jl o gs t=0 then (aL gs 0 t.2 []).1 else []
def Nw (o:Option (List Lad)) (gs:List Gd) (t:Tb):Pz:=((ig o gs t).map Prod.fst,ir gs [] (ig o gs t))
theorem QK {o:Option (List Lad)} {gs:List Gd} (h:mF o gs=0):gs.length≤1000000:=by
 cases o with
 | none=>cases h
 | some ls=>
  have h':(if (32:Int)<gs.length then 3 else goG ls [] gs)=0:=h;by_cases c:(32:Int)<gs.length
  ·rw[zB0 c] at h';cases h'
  omega
theorem vn (gs:List Gd):∀ (l pre:List (Cl×Int)) (x:Cl×Int),ir gs pre (l++[x])=ir gs pre l++mj gs (pre++l) x
 | [],pre,x=>by
  show mj gs pre x++[]=[]++mj gs (pre++[]) x;rw[List.append_nil,List.append_nil,List.nil_append]
 | y::l,pre,x=>by
  show mj gs pre y++ir gs (pre++[y]) (l++[x])=(mj gs pre y++ir gs (pre++[y]) l)++mj gs (pre++y::l) x;rw[vn gs l (pre++[y]) x,List.append_assoc,List.append_assoc];rfl
theorem AN:∀ (n:Nat) (l:List (Cl×Int)) (x:Cl×Int),bt n (l++[x])=bt n l++(if x.2=1 then [((n+l.length:Nat):Int)] else [])
 | n,[],x=>by
  show (if x.2=1 then (n:Int)::[] else [])=_;split <;> rfl
 | n,y::l,x=>by
  have e:n+1+l.length=n+(l.length+1):=by omega
  show (if y.2=1 then (n:Int)::bt (n+1) (l++[x]) else bt (n+1) (l++[x]))=(if y.2=1 then (n:Int)::bt (n+1) l else bt (n+1) l)++_;rw[AN (n+1) l x,List.length_cons,e];split <;> rfl
theorem nT (key:List UInt8×Int):∀ (n a:Nat) (l:List (Cl×Int)) (x:Cl×Int),fW key n a (l++[x])=if x.1.2.1=key.1∧x.2=key.2 then n+l.length+1 else fW key n a l
 | n,a,[],x=>by
  show (if x.1.2.1=key.1∧x.2=key.2 then n+1 else a)=_;rfl
 | n,a,y::l,x=>by
  show fW key (n+1) _ (l++[x])=_;rw[nT key (n+1) _ l x,List.length_cons];have e:n+1+l.length+1=n+(l.length+1)+1:=by omega
  rw[e];rfl
theorem KC {gs:List Gd} {s:List UInt8} (h:0≤dO 0 gs s):∃ i:Nat,dO 0 gs s=(i:Int)∧gs[i]?=some (ke gs s)∧(ke gs s).1=s:=by
 rcases kY 0 gs s with h1|⟨k,y,h1,h2⟩
 ·omega
 refine ⟨k,by rw[h2,Nat.zero_add],?_,?_⟩
 ·unfold ke;rw[h2,Nat.zero_add,Int.toNat_natCast,h1];rfl
 unfold ke;rw[h2,Nat.zero_add,Int.toNat_natCast,h1];show y.1=s;exact idxG_name 0 gs s k y h1 h2
where
 idxG_name:∀ (n:Nat) (l:List Gd) (s:List UInt8) (k:Nat) (y:Gd),l[k]?=some y→dO n l s=((n+k:Nat):Int)→y.1=s
  | _,[],_,_,_,h,_=>by cases h
  | n,x::l,s,0,y,h,h2=>by
   cases h
   unfold dO at h2;by_cases hx:x.1=s
   ·exact hx
   rw[zB1 hx] at h2;rcases kY (n+1) l s with h3|⟨k,y,_,h3⟩
   ·rw[h3] at h2;omega
   rw[h3] at h2;omega
  | n,x::l,s,k+1,y,h,h2=>by
   unfold dO at h2;by_cases hx:x.1=s
   ·rw[zB0 hx] at h2;omega
   rw[zB1 hx] at h2;exact idxG_name (n+1) l s k y (by simpa using h) (by rw[h2];omega)
theorem YZ:∀ (H:Hp) (lg:List Nat) (c:List AC) (x:Cl),ClR H c x→ClR ⟨H.t,H.nx,lg⟩ c x:=fun _ _ _ _ h=>h
def XT (gs:List Gd) (cs:List Cs) (x:Cl×Int):Prop:=∃ (j:Nat) (c:Cs),x.1.1=(j:Int)∧cs[j]?=some c∧c.kind=x.2∧c.good=x.1.2.1∧0≤dO 0 gs x.1.2.1∧x.1.2.2.1=(ke gs x.1.2.1).2.1∧x.1.2.2.2=c.num∧x.2≠4∧x.1.2.1≠[]
theorem ky (gs:List Gd) (all:List Cs):∀ (i:Nat) (cs:List Cs) (acc:List (Cl×Int)),all.drop i=cs→(∀ x∈acc,XT gs all x)→acc.length≤64→(∀ x∈(aL gs i cs acc).1,XT gs all x)∧(aL gs i cs acc).1.length≤64
 | _,[],acc,_,h,hl=>⟨h,hl⟩
 | i,c::cs,acc,hd,h,hl=>by
  have hc:all[i]?=some c:=by
   have h1:(all.drop i)[0]?=some c:=by rw[hd];rfl
   rw[List.getElem?_drop] at h1;exact h1
  have hd2:all.drop (i+1)=cs:=by
   rw[←List.drop_drop,hd];rfl
  unfold aL;split
  ·exact ky gs all (i+1) cs acc hd2 h hl
  rename_i c1
  split
  ·exact ⟨(fun _ h=>by cases h),Nat.zero_le _⟩
  rename_i c2
  split
  ·exact ⟨(fun _ h=>by cases h),Nat.zero_le _⟩
  split
  ·exact ⟨(fun _ h=>by cases h),Nat.zero_le _⟩
  rename_i c4
  refine ky gs all (i+1) cs _ hd2 (fun x hx=>?_) (by rw[List.length_append];show acc.length+1≤64;omega);rcases List.mem_append.1 hx with hx|hx
  ·exact h x hx
  rw[List.mem_singleton.1 hx];exact ⟨i,c,rfl,hc,rfl,rfl,by show 0≤dO 0 gs c.good;omega,rfl,rfl,fun h=>c1 (.inl h),fun h=>c1 (.inr h)⟩
theorem xi (gs:List Gd):∀ (pre l:List (Cl×Int)),(ir gs pre l).length≤l.length
 | _,[]=>zA1 _
 | pre,x::l=>by
  have:=xi gs (pre++[x]) l;show (mj gs pre x++ir gs (pre++[x]) l).length≤l.length+1;rw[List.length_append];unfold mj;split
  ·simp only[List.length_nil];omega
  simp only[List.length_cons,List.length_nil];omega
theorem IJ {α:Type} {l:List α} {i:Nat} {x:α} (h:l[i]?=some x):l.take (i+1)=l.take i++[x]:=by
 rw[List.take_add_one,h];rfl
theorem eU.ids {H:Hp} {v:AC} {e:TypeId} {sz n:Nat} {cells:List AC} {r:Option Nat} (h:eU H v e sz n cells r):∀ id∈(AV.one v).ids,r=some id:=by
 rcases h with ⟨rfl,_⟩|⟨id,lo,gen,e,rfl,_⟩
 ·intro i hi;cases hi
 intro i hi;rw[List.mem_singleton.1 hi];exact e
end Go.Proofs.YtnhbkodnmkojpaaGreat
end

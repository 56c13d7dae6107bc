/- A part of the proof: BkTb10, BkTb11, BkTb12, BkTb13, BkTb14. No conditions. -/
import Derived.Test.YtnhbkodnmkojpaaGreatRAo
set_option maxRecDepth 100000
set_option maxHeartbeats 64000000
set_option linter.unusedVariables false
set_option linter.unusedSimpArgs false
noncomputable section
namespace Go.Proofs.YtnhbkodnmkojpaaGreat
open Go Go.Eng
theorem RW:ak Tryz.prog 141=true:=by kernel_rfl
theorem Vq:ak Tryz.prog 177=true:=by kernel_rfl
theorem Lu:ak Tryz.prog 83=true:=by kernel_rfl
theorem yb:ak Tryz.prog 42=true:=by kernel_rfl
def iL:Nat→List (List UInt8)→List UInt8→Int
 | _,[],_=>-1
 | n,x::l,s=>if s=x then (n:Int) else iL (n+1) l s
theorem uA:∀ (n:Nat) (l:List (List UInt8)) (s:List UInt8),decide (0≤iL n l s)=l.contains s
 | _,[],_=>rfl
 | n,x::l,s=>by
  unfold iL;rw[List.contains_cons];by_cases h:s=x
  ·subst h;rw[zB0 rfl,beq_self_eq_true,Bool.true_or];exact decide_eq_true (by omega)
  rw[zB1 h,zB5 h,Bool.false_or];exact uA (n+1) l s
def dD (g:Gd) (s:List UInt8):Bool:=if g.2.2=[] then g.1==s else g.2.2.contains s
theorem PR (H:Hp) (v:AC) (l:List (List UInt8)) (s:List UInt8) (hv:SlS H v l) (hL:l.length≤4611686018427387904):Con E2 177 [.one v,.one (.o (.str s))] H (fun _=>False) fun r _=>r=.one (.i .i64 (iL 0 l s)):=by
 refine Con.of rfl fun lg=>?_;have hv:SlS ⟨H.t,H.nx,lg⟩ v l:=hv;generalize (⟨H.t,H.nx,lg⟩:Hp)=H at hv ⊢;refine C1.body (E:=E2) (nt:=19) (res:=[.tmp 4]) Tryz.func177 rfl rfl rfl rfl rfl fun tm A0=>?_;have h0:=A0 0 _ rfl;have h1:=A0 1 _ rfl;clear A0;have fin:∀ (e:Int) (A:ab) (H3:Hp),slot A.tm 4=.one (.i .i64 e)→A.dfr=[]→Gr H H3→e=iL 0 l s→∃ w H4,an E2 [.tmp 4] (.ret,A,H3)=.ok [(w,H4)]∧Gr H H4∧∀ _:List Nat,w=.one (.i .i64 (iL 0 l s)):=fun e A H3 h1 h2 h3 h4=>⟨_,H3,ah (.i .i64 e) (.inr rfl) h2 h1,h3,fun _=>by rw[h4]⟩;generalize E0:iL 0 l s=r0 at fin;have l1:=hv.len;have l2:=hv.lt;replace E0:Hd _:=E0;refine zW tyF ?_;refine R1.cy fun K k1 k2 k3 k4=>?_;refine R1.loop (fun z A H3=>∃ i:Nat,z=l.length - i∧i≤l.length∧H3=H∧Hd (iL i (l.drop i) s=r0)∧slot A.tm 0=.one (v)∧slot A.tm 1=.one ((.o (.str s)))∧slot A.tm 6=.one (v)∧slot A.tm 7=.one (.i .i64 (l.length:Int))∧slot A.tm 8=.one (.i .i64 (i:Int))∧A.nt=19∧A.dfr=[]) ?_ l.length
  ⟨0,rfl,Nat.zero_le _,rfl,E0,zL⟩
 clear h0 h1 E0 tm l1 l2 k3;rintro z A H3 ⟨i,rfl,hi,rfl,hr,t0,t1,t6,t7,t8,B0,C0⟩;refine zW tyF ?_;refine zI tyF (fun hc=>?_) (fun hc=>?_)
 ·have D0:i<l.length:=by omega
  have ex:=zB4 D0;have Q0:=zC1 D0;have B1:=zC2 D0;have G0:l[i]∈l:=List.getElem_mem D0;generalize l[i]=x at ex Q0 B1 G0;have V0:=zC0 i (by omega);obtain ⟨id,g,off,cells,rfl,hid,P0,L0⟩:=hv.open (by omega);obtain ⟨y1,y2⟩:=L0 i x ex;have F0:=hr.out;rw[Q0,iL] at F0;clear L0 G0 B1 Q0 hr ex;refine zW tyF ?_;refine R1.cy fun K2 p1 p2 p3 p4=>?_;by_cases q:s=x
  ·have hn:(i:Int)=r0:=by rw[←F0];exact (zB0 q).symm
   subst q;have es:(s==s)=true:=beq_self_eq_true s;have es2:lEq s s=true:=(bO s s).trans (beq_self_eq_true s);replace hn:Hd _:=hn;clear F0;refine zW (qA tyF (ixC D0)) ?_;exact p4.out _ _ (k4.out _ _ (fin ((i:Int)) _ _ qp qe (Fr.refl _) (hn.out)))
  have hn:iL (i+1) (l.drop (i+1)) s=r0:=by rw[←F0];exact (zB1 q).symm
  have es:(s==x)=false:=zB5 q;have es2:lEq s x=false:=by rw[bO];exact es
  replace hn:Hd _:=hn;clear F0 q;refine zW (qA tyF (ixC D0)) ?_;refine p1.out _ _ ?_;refine zW tyF ?_;exact ⟨l.length - (i+1),by omega,i+1,rfl,D0,rfl,hn,zL⟩
 have he:i=l.length:=by omega
 subst he;have hn:=hr.out;rw[List.drop_length,iL] at hn;replace hn:Hd _:=hn;clear hr;refine zW tyF ?_;refine k2.out _ _ ?_;refine zW tyF ?_;exact fin (-1) _ _ qp qe (Fr.refl _) (hn.out)
theorem Pm (H:Hp) (v:AC) (l:List (List UInt8)) (s:List UInt8) (hv:SlS H v l) (hL:l.length≤4611686018427387904):Con E2 141 [.one v,.one (.o (.str s))] H (fun _=>False) fun r _=>r=.one (.b (l.contains s)):=by
 refine Con.of rfl fun lg=>?_;have hv:SlS ⟨H.t,H.nx,lg⟩ v l:=hv;generalize (⟨H.t,H.nx,lg⟩:Hp)=H at hv ⊢;refine C1.body (E:=E2) (nt:=9) (res:=[.tmp 4]) Tryz.func141 rfl rfl rfl rfl rfl fun tm A0=>?_;have h0:=A0 0 _ rfl;have h1:=A0 1 _ rfl;clear A0;have fin:∀ (e:Bool) (A:ab) (H3:Hp),slot A.tm 4=.one (.b e)→A.dfr=[]→Gr H H3→e=l.contains s→∃ w H4,an E2 [.tmp 4] (.ret,A,H3)=.ok [(w,H4)]∧Gr H H4∧∀ _:List Nat,w=.one (.b (l.contains s)):=fun e A H3 h1 h2 h3 h4=>⟨_,H3,ah (.b e) (.inr rfl) h2 h1,h3,fun _=>by rw[h4]⟩;generalize E0:l.contains s=r0 at fin;have l2:=hv.lt;have hn:decide (0≤iL 0 l s)=r0:=(uA 0 l s).trans E0;replace hn:Hd _:=hn;clear E0;refine zW tyF ?_;refine zG (qA tyF Vq) fun K hK=>?_;refine WE.con (PR H v l s hv hL) fun w2 H2 g2 W1=>?_;subst W1;refine zK tyF ?_;exact fin (decide (0≤iL 0 l s)) _ _ qp qe (g2) (hn.out)
theorem Om (H:Hp) (g:Gd) (u:AC) (s:List UInt8) (hu:SlS H u g.2.2) (hL:g.2.2.length≤4611686018427387904):Con E2 79 [.agg [.o (.str g.1),.o (.str g.2.1),u],.one (.o (.str s))] H (fun _=>False) fun r _=>r=.one (.b (dD g s)):=by
 refine Con.of rfl fun lg=>?_;have hu:SlS ⟨H.t,H.nx,lg⟩ u g.2.2:=hu;generalize (⟨H.t,H.nx,lg⟩:Hp)=H at hu ⊢;refine C1.body (E:=E2) (nt:=17) (res:=[.tmp 4]) Tryz.func79 rfl rfl rfl rfl rfl fun tm A0=>?_;have h0:=A0 0 _ rfl;have h1:=A0 1 _ rfl;clear A0;have fin:∀ (e:Bool) (A:ab) (H3:Hp),slot A.tm 4=.one (.b e)→A.dfr=[]→Gr H H3→e=dD g s→∃ w H4,an E2 [.tmp 4] (.ret,A,H3)=.ok [(w,H4)]∧Gr H H4∧∀ _:List Nat,w=.one (.b (dD g s)):=fun e A H3 h1 h2 h3 h4=>⟨_,H3,ah (.b e) (.inr rfl) h2 h1,h3,fun _=>by rw[h4]⟩;generalize E0:dD g s=r0 at fin;obtain ⟨gn,gl,go⟩:=g;have l2:=hu.lt;replace E0:Hd _:=E0;refine zG tyF fun K hK=>?_;refine hK.out _ _ ?_;refine R1.gen (fun A1 H1=>Gr H H1∧H.nx<H1.nx∧H1.get H.nx=some (.arr [.o (.str gn),.o (.str gl),u] 104 0 0)∧slot A1.tm 1=.one ((.o (.str s)))∧slot A1.tm 2=.one ((.o (.ptr H.nx 0 0 3)))∧A1.nt=17∧A1.dfr=[])
  ⟨(Fr.refl _).new _,zA6 _,aB rfl,zL⟩ ?_
 clear h0 h1 tm hK K l2;rintro A1 H1 ⟨g1,m1,rx,t1,t2,B0,C0⟩;obtain ⟨N,hN⟩:∃ N,N=H.nx:=⟨_,rfl⟩;rw[←hN] at m1 rx t2;clear hN;have hu:=hu.gr g1;have l1:=hu.len;have l2:=hu.lt;by_cases q:go=[]
 ·have hn:lEq gn s=r0:=by rw[←E0.out,bO];exact (zB0 (by exact q)).symm
  subst q;replace hn:Hd _:=hn;have e0:(((([]:List (List UInt8)).length:Nat):Int)==0)=true:=rfl;clear E0;refine zW tyF ?_;exact fin (lEq gn s) _ _ qp qe (g1) (hn.out)
 have hn:go.contains s=r0:=by rw[←E0.out];exact (zB1 (by exact q)).symm
 have e0:((go.length:Int)==0)=false:=zB5 fun h=>q (List.eq_nil_of_length_eq_zero (by omega));replace hn:Hd _:=hn;clear E0 q;refine zW tyF ?_;refine zG (qA tyF RW) fun K hK=>?_;refine WE.con (Pm H1 u go s hu hL) fun w2 H2 g2 W1=>?_;subst W1;refine zK tyF ?_;exact fin (go.contains s) _ _ qp qe (g1.gr g2) (hn.out)
theorem Ic (H:Hp) (v:AC) (l:List (List UInt8)) (s:List UInt8) (hv:SlS H v l) (hL:l.length≤4611686018427387904):Con E2 83 [.one v,.one (.o (.str s))] H (fun _=>False) fun r _=>r=.one (.i .i64 (iL 0 l s)):=by
 refine Con.of rfl fun lg=>?_;have hv:SlS ⟨H.t,H.nx,lg⟩ v l:=hv;generalize (⟨H.t,H.nx,lg⟩:Hp)=H at hv ⊢;refine C1.body (E:=E2) (nt:=19) (res:=[.tmp 4]) Tryz.func83 rfl rfl rfl rfl rfl fun tm A0=>?_;have h0:=A0 0 _ rfl;have h1:=A0 1 _ rfl;clear A0;have fin:∀ (e:Int) (A:ab) (H3:Hp),slot A.tm 4=.one (.i .i64 e)→A.dfr=[]→Gr H H3→e=iL 0 l s→∃ w H4,an E2 [.tmp 4] (.ret,A,H3)=.ok [(w,H4)]∧Gr H H4∧∀ _:List Nat,w=.one (.i .i64 (iL 0 l s)):=fun e A H3 h1 h2 h3 h4=>⟨_,H3,ah (.i .i64 e) (.inr rfl) h2 h1,h3,fun _=>by rw[h4]⟩;generalize E0:iL 0 l s=r0 at fin;have l1:=hv.len;have l2:=hv.lt;replace E0:Hd _:=E0;refine zW tyF ?_;refine R1.cy fun K k1 k2 k3 k4=>?_;refine R1.loop (fun z A H3=>∃ i:Nat,z=l.length - i∧i≤l.length∧H3=H∧Hd (iL i (l.drop i) s=r0)∧slot A.tm 0=.one (v)∧slot A.tm 1=.one ((.o (.str s)))∧slot A.tm 5=.one (.i .i64 (i:Int))∧A.nt=19∧A.dfr=[]) ?_ l.length
  ⟨0,rfl,Nat.zero_le _,rfl,E0,zL⟩
 clear h0 h1 E0 tm k3;rintro z A H3 ⟨i,rfl,hi,rfl,hr,t0,t1,t5,B0,C0⟩;refine zW tyF ?_;refine zI tyF (fun hc=>?_) (fun hc=>?_)
 ·have D0:i<l.length:=by omega
  have ex:=zB4 D0;have Q0:=zC1 D0;have B1:=zC2 D0;have G0:l[i]∈l:=List.getElem_mem D0;generalize l[i]=x at ex Q0 B1 G0;have V0:=zC0 i (by omega);obtain ⟨id,g,off,cells,rfl,hid,P0,L0⟩:=hv.open (by omega);obtain ⟨y1,y2⟩:=L0 i x ex;have F0:=hr.out;rw[Q0,iL] at F0;clear L0 G0 B1 Q0 hr ex;refine zW tyF ?_;refine R1.cy fun K2 p1 p2 p3 p4=>?_;by_cases q:s=x
  ·have hn:(i:Int)=r0:=by rw[←F0];exact (zB0 q).symm
   subst q;have es:(s==s)=true:=beq_self_eq_true s;have es2:lEq s s=true:=(bO s s).trans (beq_self_eq_true s);replace hn:Hd _:=hn;clear F0;refine zW (qA tyF (ixC D0)) ?_;exact p4.out _ _ (k4.out _ _ (fin ((i:Int)) _ _ qp qe (Fr.refl _) (hn.out)))
  have hn:iL (i+1) (l.drop (i+1)) s=r0:=by rw[←F0];exact (zB1 q).symm
  have es:(x==s)=false:=zB5 fun h=>q h.symm;have es2:lEq x s=false:=by rw[bO];exact es
  replace hn:Hd _:=hn;clear F0 q;refine zW (qA tyF (ixC D0)) ?_;refine p1.out _ _ ?_;refine zW tyF ?_;exact ⟨l.length - (i+1),by omega,i+1,rfl,D0,rfl,hn,zL⟩
 have he:i=l.length:=by omega
 subst he;have hn:=hr.out;rw[List.drop_length,iL] at hn;replace hn:Hd _:=hn;clear hr;refine zW tyF ?_;refine k2.out _ _ ?_;refine zW tyF ?_;exact fin (-1) _ _ qp qe (Fr.refl _) (hn.out)
theorem Fq (H:Hp) (v:AC) (gs:List Gd) (own tot:List UInt8) (i:Nat) (g:Gd) (hv:SlG H v gs) (hL:gs.length≤1000000) (hB:∀ x∈gs,x.2.2.length≤4611686018427387904) (hi:bp 0 gs tot=(i:Int)) (hg:gs[i]?=some g) (hn:g.1=tot):
  Con E2 35 [.one v,.one (.o (.str own)),.one (.o (.str tot))] H (fun _=>False) fun r _=>r=.one (.b (dD g own)):=by
 refine Con.of rfl fun lg=>?_;have hv:SlG ⟨H.t,H.nx,lg⟩ v gs:=hv;generalize (⟨H.t,H.nx,lg⟩:Hp)=H at hv ⊢;refine C1.body (E:=E2) (nt:=30) (res:=[.tmp 6]) Tryz.func35 rfl rfl rfl rfl rfl fun tm A0=>?_;have h0:=A0 0 _ rfl;have h1:=A0 1 _ rfl;have h2:=A0 2 _ rfl;clear A0;have fin:∀ (e:Bool) (A:ab) (H3:Hp),slot A.tm 6=.one (.b e)→A.dfr=[]→Gr H H3→e=dD g own→∃ w H4,an E2 [.tmp 6] (.ret,A,H3)=.ok [(w,H4)]∧Gr H H4∧∀ _:List Nat,w=.one (.b (dD g own)):=fun e A H3 h1 h2 h3 h4=>⟨_,H3,ah (.b e) (.inr rfl) h2 h1,h3,fun _=>by rw[h4]⟩;generalize E0:dD g own=r0 at fin;have l2:=hv.lt;replace E0:Hd _:=E0;replace hn:Hd _:=hn;refine zW tyF ?_;refine zG (qA tyF yb) fun K hK=>?_;refine WE.con (ky H v gs tot hv hL) fun w2 H2 g2 W1=>?_;subst W1;rw[hi];have X1:=hv.gr g2;have D0:=(List.getElem?_eq_some_iff.1 hg).1;obtain ⟨id,gn,off,cells,rfl,hid,P0,L0⟩:=X1.open (by omega);obtain ⟨u,hx⟩:=L0 i g hg;have y1:=hx.all;have y2:=hx.le;have hu:=hx.of;have hBg:=hB g (List.mem_of_getElem? hg);clear hx L0 hi hg;obtain ⟨gname,gl,go⟩:=g;have y1:(cells.drop (off+i*3)).take 3=[.o (.str gname),.o (.str gl),u]:=y1;have hu:SlS H2 u go:=hu;have hBg:go.length≤4611686018427387904:=hBg;refine zS (qA tyF (ixC D0)) ?_;refine hK.out _ _ ?_;refine R1.gen (fun A4 H4=>Gr H2 H4∧H2.nx<H4.nx∧H4.get H2.nx=some (.arr [.o (.str gname),.o (.str gl),u] 104 0 0)∧slot A4.tm 1=.one ((.o (.str own)))∧slot A4.tm 2=.one ((.o (.str tot)))∧slot A4.tm 7=.one ((.o (.ptr H2.nx 0 0 3)))∧A4.nt=30∧A4.dfr=[])
  ⟨((Fr.refl _).new _).mod _ (.inl (zA1 _)),zA6 _,al rfl,zL⟩ ?_
 clear h0 h1 h2 tm hK K l2 y1 y2 P0 hid D0;rintro A H4 ⟨g4,mM,rM,t1,t2,t7,B0,C0⟩;obtain ⟨M,hM⟩:∃ M,M=H2.nx:=⟨_,rfl⟩;rw[←hM] at mM rM t7;clear hM;have n_:=hu.gr g4;have l1:=n_.len;have l2:=n_.lt;have g24:=g2.gr g4;by_cases q:go=[]
 ·have T4:(gname==own)=r0:=by rw[←E0.out];exact (zB0 (by exact q)).symm
  have hgt:gname=tot:=hn.out;subst q;have e0:(((([]:List (List UInt8)).length:Nat):Int)==0)=true:=rfl;by_cases q1:own=tot
  ·have hn3:true=r0:=by rw[←T4,hgt,q1];exact (beq_self_eq_true tot).symm
   subst q1;have es2:lEq own own=true:=(bO own own).trans (beq_self_eq_true own);replace hn3:Hd _:=hn3;clear E0 hn T4 hgt;refine zW tyF ?_;exact fin (true) _ _ qp qe (g24) (hn3.out)
  have hn3:false=r0:=by rw[←T4,hgt];exact (zB5 fun h=>q1 h.symm).symm
  have es2:lEq own tot=false:=by rw[bO];exact zB5 q1
  replace hn3:Hd _:=hn3;clear E0 hn T4 q1 hgt;refine zG (qA tyF Lu) fun K hK=>?_;refine WE.con (Ic H4 u [] own n_ (Nat.zero_le _)) fun w5 H5 g5 E5=>?_;subst E5;have e7:iL 0 [] own=-1:=rfl;rw[e7];refine zK tyF ?_;exact fin (false) _ _ qp qe (g24.gr g5) (hn3.out)
 have T4:decide (0≤iL 0 go own)=r0:=by rw[←E0.out,uA];exact (zB1 (by exact q)).symm
 have e0:((go.length:Int)==0)=false:=zB5 fun h=>q (List.eq_nil_of_length_eq_zero (by omega));replace T4:Hd _:=T4;clear E0 hn q;refine zG (qA tyF Lu) fun K hK=>?_;refine WE.con (Ic H4 u go own n_ hBg) fun w5 H5 g5 E5=>?_;subst E5;refine zK tyF ?_;exact fin (decide (0≤iL 0 go own)) _ _ qp qe (g24.gr g5) (T4.out)
def fP (gs:List Gd) (s:List UInt8):Gd:=(gs[(bp 0 gs s).toNat]?).getD ([],[],[])
def cA (gs:List Gd):Nat→List Cs→List (Cl×Int)→List (Cl×Int)×Int
 | _,[],acc=>(acc,0)
 | i,c::cs,acc=>
  if c.kind=4∨c.good=[] then cA gs (i+1) cs acc else if bp 0 gs c.good<0 then ([],4) else if c.kind=1∧(fP gs c.good).2.2≠[] then ([],52) else if acc.length=64 then ([],3) else
  cA gs (i+1) cs (acc++[(((i:Int),c.good,(fP gs c.good).2.1,c.num),c.kind)])
def dq (key:List UInt8×Int):Nat→Nat→List (Cl×Int)→Nat
 | _,a,[]=>a
 | n,a,x::l=>dq key (n+1) (if x.1.2.1=key.1∧x.2=key.2 then n+1 else a) l
def bR (g:Gd) (fr:Nat):Nat→List (Cl×Int)→List Int
 | _,[]=>[]
 | n,x::l=>if fr≤n∧x.2=1∧dD g x.1.2.1=true then (n:Int)::bR g fr (n+1) l else bR g fr (n+1) l
def iA (gs:List Gd) (pre:List (Cl×Int)) (x:Cl×Int):List Rl:=if x.2=1 then [] else [((pre.length:Int),bR (fP gs x.1.2.1) (dq (x.1.2.1,x.2) 0 0 pre) 0 pre)]
def dn (gs:List Gd):List (Cl×Int)→List (Cl×Int)→List Rl
 | _,[]=>[]
 | pre,x::l=>iA gs pre x++dn gs (pre++[x]) l
def bu:Nat→List (Cl×Int)→List Int
 | _,[]=>[]
 | n,x::l=>if x.2=1 then (n:Int)::bu (n+1) l else bu (n+1) l
def eY (o:Option (List Lad)) (gs:List Gd) (t:Tb):Int:=if jS o gs≠0 then jS o gs else if kC t≠0 then kC t else (cA gs 0 t.2 []).2
def fQ (o:Option (List Lad)) (gs:List Gd) (t:Tb):List (Cl×Int):=if eY o gs t=0 then (cA gs 0 t.2 []).1 else []
def js (o:Option (List Lad)) (gs:List Gd) (t:Tb):Pz:=((fQ o gs t).map Prod.fst,dn gs [] (fQ o gs t))
theorem vp {o:Option (List Lad)} {gs:List Gd} (h:jS o gs=0):gs.length≤1000000:=by
 cases o with
 | none=>cases h
 | some ls=>
  have h':(if (32:Int)<gs.length then 3 else goG ls [] gs)=0:=h;by_cases c:(32:Int)<gs.length
  ·rw[zB0 c] at h';cases h'
  omega
theorem pn (gs:List Gd):∀ (l pre:List (Cl×Int)) (x:Cl×Int),dn gs pre (l++[x])=dn gs pre l++iA gs (pre++l) x
 | [],pre,x=>by
  show iA gs pre x++[]=[]++iA gs (pre++[]) x;rw[List.append_nil,List.append_nil,List.nil_append]
 | y::l,pre,x=>by
  show iA gs pre y++dn gs (pre++[y]) (l++[x])=(iA gs pre y++dn gs (pre++[y]) l)++iA gs (pre++y::l) x;rw[pn gs l (pre++[y]) x,List.append_assoc,List.append_assoc];rfl
theorem AX:∀ (n:Nat) (l:List (Cl×Int)) (x:Cl×Int),bu n (l++[x])=bu n l++(if x.2=1 then [((n+l.length:Nat):Int)] else [])
 | n,[],x=>by
  show (if x.2=1 then (n:Int)::[] else [])=_;split <;> rfl
 | n,y::l,x=>by
  have e:n+1+l.length=n+(l.length+1):=by omega
  show (if y.2=1 then (n:Int)::bu (n+1) (l++[x]) else bu (n+1) (l++[x]))=(if y.2=1 then (n:Int)::bu (n+1) l else bu (n+1) l)++_;rw[AX (n+1) l x,List.length_cons,e];split <;> rfl
theorem kH (key:List UInt8×Int):∀ (n a:Nat) (l:List (Cl×Int)) (x:Cl×Int),dq key n a (l++[x])=if x.1.2.1=key.1∧x.2=key.2 then n+l.length+1 else dq key n a l
 | n,a,[],x=>by
  show (if x.1.2.1=key.1∧x.2=key.2 then n+1 else a)=_;rfl
 | n,a,y::l,x=>by
  show dq key (n+1) _ (l++[x])=_;rw[kH key (n+1) _ l x,List.length_cons];have e:n+1+l.length+1=n+(l.length+1)+1:=by omega
  rw[e];rfl
theorem jD {gs:List Gd} {s:List UInt8} (h:0≤bp 0 gs s):∃ i:Nat,bp 0 gs s=(i:Int)∧gs[i]?=some (fP gs s)∧(fP gs s).1=s:=by
 rcases jl 0 gs s with h1|⟨k,y,h1,h2⟩
 ·omega
 refine ⟨k,by rw[h2,Nat.zero_add],?_,?_⟩
 ·unfold fP;rw[h2,Nat.zero_add,Int.toNat_natCast,h1];rfl
 unfold fP;rw[h2,Nat.zero_add,Int.toNat_natCast,h1];show y.1=s;exact idxG_name 0 gs s k y h1 h2
where
 idxG_name:∀ (n:Nat) (l:List Gd) (s:List UInt8) (k:Nat) (y:Gd),l[k]?=some y→bp n l s=((n+k:Nat):Int)→y.1=s
  | _,[],_,_,_,h,_=>by cases h
  | n,x::l,s,0,y,h,h2=>by
   cases h
   unfold bp at h2;by_cases hx:x.1=s
   ·exact hx
   rw[zB1 hx] at h2;rcases jl (n+1) l s with h3|⟨k,y,_,h3⟩
   ·rw[h3] at h2;omega
   rw[h3] at h2;omega
  | n,x::l,s,k+1,y,h,h2=>by
   unfold bp at h2;by_cases hx:x.1=s
   ·rw[zB0 hx] at h2;omega
   rw[zB1 hx] at h2;exact idxG_name (n+1) l s k y (by simpa using h) (by rw[h2];omega)
theorem Wq:∀ (H:Hp) (lg:List Nat) (c:List AC) (x:Cl),ClR H c x→ClR ⟨H.t,H.nx,lg⟩ c x:=fun _ _ _ _ h=>h
theorem Po:ak Tryz.prog 34=true:=by kernel_rfl
theorem Kq (H:Hp) (gv v:AC) (gs:List Gd) (nm:List UInt8) (cs:List Cs) (hg:SlG H gv gs) (hv:dI H v cs) (hB:TbB cs) (hL:gs.length≤1000000) (hO:∀ x∈gs,x.2.2.length≤4611686018427387904):
  Con E2 34 [.one gv,.agg [.o (.str nm),v]] H (fun _=>False) fun r H'=>∃ c ro,r=.tup [(false,[c]),(false,[.i .i64 (cA gs 0 cs []).2])]∧bK ClR 5 84 (fun j=>j<H.nx) H' c ((cA gs 0 cs []).1.map Prod.fst) ro:=by
 refine Con.of rfl fun lg=>?_;have hg:SlG ⟨H.t,H.nx,lg⟩ gv gs:=hg;have hv:dI ⟨H.t,H.nx,lg⟩ v cs:=hv;have e0:H.nx=(⟨H.t,H.nx,lg⟩:Hp).nx:=rfl;rw[e0];clear e0;generalize (⟨H.t,H.nx,lg⟩:Hp)=H at hg hv ⊢;refine C1.body (E:=E2) (nt:=67) (res:=[.tmp 4,.tmp 5]) Tryz.func34 rfl rfl rfl rfl rfl fun tm A0=>?_;have h0:=A0 0 _ rfl;have h1:=A0 1 _ rfl;clear A0;have hl:cs.length*120≤140737488355328:=hB.c;obtain ⟨z,hz,X0⟩:=Md;replace hz:Hd _:=hz;replace X0:Hd _:=X0;generalize E0:cA gs 0 cs []=r0;have fin:∀ (c:AC) (ro:Option Nat) (e:Int) (A:ab) (H3:Hp),slot A.tm 4=.one c→slot A.tm 5=.one (.i .i64 e)→A.dfr=[]→Gr H H3→e=r0.2→bK ClR 5 84 (fun j=>j<H.nx) H3 c (r0.1.map Prod.fst) ro→∃ w H4,an E2 [.tmp 4,.tmp 5] (.ret,A,H3)=.ok [(w,H4)]∧Gr H H4∧∀ lg':List Nat,∃ c ro,w=.tup [(false,[c]),(false,[.i .i64 r0.2])]∧bK ClR 5 84 (fun j=>j<H.nx) ⟨H4.t,H4.nx,lg'⟩ c (r0.1.map Prod.fst) ro:=fun c ro e A H3 h1 h2 hd P0 he hs=>
  ⟨_,H3,aQ c (.i .i64 e) (.inr rfl) hd h1 h2,P0,fun lg'=>⟨c,ro,by rw[he],bK.lg Wq hs lg'⟩⟩
 have bad:∀ (e:Int) (H3:Hp),(([]:List (Cl×Int)),e)=r0→e=r0.2∧bK ClR 5 84 (fun j=>j<H.nx) H3 (.o .nilS) (r0.1.map Prod.fst) none:=fun e H3 he=>by
  rw[←he];exact ⟨rfl,bK.nil⟩
 have lv:=hv.lt;refine zG tyF fun K hK=>?_;refine hK.out _ _ ?_;refine R1.gen (fun A1 H1=>Gr H H1∧H.nx<H1.nx∧H1.get H.nx=some (.arr [.o (.str nm),v] 26 0 0)∧slot A1.tm 0=.one (gv)∧slot A1.tm 3=.one ((.o (.ptr H.nx 0 0 2)))∧A1.nt=67∧A1.dfr=[])
  ⟨(Fr.refl _).new _,zA6 _,aB rfl,zL⟩ ?_
 clear h0 h1 tm hK K lv;rintro A1 H1 ⟨g1,m1,rx,t0,t3,B0,C0⟩;obtain ⟨N,hN⟩:∃ N,N=H.nx:=⟨_,rfl⟩;rw[←hN] at m1 rx t3;replace hN:Hd _:=hN;replace E0:Hd _:=E0;refine zW tyF ?_;refine R1.cy fun K k1 k2 k3 k4=>?_;refine R1.loop (fun z A H2=>∃ (i:Nat) (kl:List (Cl×Int)) (v':AC) (r:Option Nat),z=cs.length - i∧i≤cs.length∧kl.length≤64∧Gr H H2∧N<H2.nx∧H2.get N=some (.arr [.o (.str nm),v] 26 0 0)∧Hd (cA gs i (cs.drop i) kl=r0)∧bK ClR 5 84 (fun j=>j<N+1) H2 v' (kl.map Prod.fst) r ∧
   slot A.tm 0=.one (gv)∧slot A.tm 3=.one ((.o (.ptr N 0 0 2)))∧slot A.tm 6=.one (v')∧slot A.tm 7=.one (.i .i64 (i:Int))∧A.nt=67∧A.dfr=[]) ?_ cs.length
  ⟨0,[],.o .nilS,none,rfl,Nat.zero_le _,Nat.zero_le _,g1,m1,rx,E0,bK.nil,zL⟩
 clear t0 t3 B0 C0 A1 E0 k3 g1 m1 rx H1;rintro z A H2 ⟨i,kl,v',r,rfl,hi,S5,g2,m1,rx,hr,ho,t0,t3,t6,t7,B0,C0⟩;have X1:=hv.gr g2;have X9:=hg.gr g2;have l1:=X1.len;have l2:=X1.lt;have lo:=ho.lt;refine zW tyF ?_;refine zI tyF (fun hc=>?_) (fun hc=>?_)
 ·have D0:i<cs.length:=by omega
  have ex:cs[i]?=some cs[i]:=zB4 D0;have Q0:cs.drop i=cs[i]::cs.drop (i+1):=List.drop_eq_getElem_cons D0;have B1:cs.take (i+1)=cs.take i++[cs[i]]:=List.take_succ_eq_append_getElem D0;have G0:cs[i]∈cs:=List.getElem_mem D0;generalize cs[i]=x at ex Q0 B1 G0;have V0:=zC0 i (by omega);obtain ⟨id,g,off,cells,rfl,hid,P0,L0⟩:=X1.open (by omega);obtain ⟨p,q,w,hx⟩:=L0 i x ex;have y1:=hx.all;have y2:=hx.le;have hp:=hx.of1;have hq:=hx.of2;have hBn:=hB.n x G0;have F0:=hr.out;rw[Q0,cA] at F0;clear hx L0 Q0 ex G0 B1 hr l1;replace F0:Hd _:=F0;refine zW tyF ?_;refine R1.cy fun K2 p1 p2 p3 p4=>?_;refine zG (qA tyF (ixC D0)) fun K3 l5=>?_;refine l5.out _ _ ?_;refine R1.gen (fun A4 H4=>Gr H2 H4∧H2.nx<H4.nx∧H4.get H2.nx=some (.arr [.i .i64 x.face,.i .i64 x.col,.i .i64 x.line,.i .i64 x.kind,p,q,.o (.str x.good),w] 69 0 0)∧slot A4.tm 0=.one (gv)∧slot A4.tm 3=.one ((.o (.ptr N 0 0 2)))∧slot A4.tm 6=.one (v')∧slot A4.tm 7=.one (.i .i64 (i:Int))∧slot A4.tm 8=.one ((.o (.ptr H2.nx 0 0 8)))∧A4.nt=67∧A4.dfr=[])
   ⟨((Fr.refl _).new _).mod _ (.inl (zA1 _)),zA6 _,al rfl,zL⟩ ?_
  clear t0 t3 t6 t7 B0 C0 A y1 y2 l5 K3 P0 hid l2 lo;rintro A H4 ⟨g4,mM,rM,t0,t3,t6,t7,t8,B0,C0⟩;obtain ⟨M,hM⟩:∃ M,M=H2.nx:=⟨_,rfl⟩;have nM:N<M:=by omega
  rw[←hM] at mM rM t8;clear hM;have rx:=(g4.get _ m1 zB2).trans rx;have m1:=zA0 m1 g4.nx;have V5:=ho.gr jR iQ g4;have g24:=g2.gr g4;have hg4:=X9.gr g4;have hp4:=hp.gr g4;have X6:=hq.gr g4;clear ho g2 X1 hp hq X9 g4;have go:Hd (∀ (kl':List (Cl×Int)) (v5:AC) (r5:Option Nat) (A:ab) (H5:Hp),slot A.tm 0=.one (gv)∧slot A.tm 3=.one ((.o (.ptr N 0 0 2)))∧slot A.tm 6=.one (v5)∧slot A.tm 7=.one (.i .i64 (i:Int))∧A.nt=67∧A.dfr=[]→kl'.length≤64→Gr H H5→N<H5.nx→H5.get N=some (.arr [.o (.str nm),.o (.sl id g off cs.length 8)] 26 0 0)→cA gs (i+1) (cs.drop (i+1)) kl'=r0→bK ClR 5 84 (fun j=>j<N+1) H5 v5 (kl'.map Prod.fst) r5→K2 (.exit 1) A H5∧K2 .normal A H5):=by
   clear t0 t3 t6 t7 t8 B0 C0 F0 V5 g24 hg4 hp4 X6 rx rM mM m1 A S5;rintro kl' v5 r5 A H5 ⟨t0,t3,t6,t7,B0,C0⟩ S5 g5 m5 rx N2 k9;replace N2:Hd _:=N2;constructor
   ·refine p2.out _ _ ?_;refine zW tyF ?_;exact ⟨cs.length - (i+1),by omega,i+1,kl',v5,r5,rfl,D0,S5,g5,m5,rx,N2,k9,zL⟩
   refine p1.out _ _ ?_;refine zW tyF ?_;exact ⟨cs.length - (i+1),by omega,i+1,kl',v5,r5,rfl,D0,S5,g5,m5,rx,N2,k9,zL⟩
  by_cases c1:x.kind=4∨x.good=[]
  ·have J0:=F0.out;rw[zB0 c1] at J0;replace J0:Hd _:=J0;clear F0;by_cases c4:x.kind=4
   ·have e1:(x.kind==4)=true:=beq_iff_eq.2 c4;clear c1 c4;refine zW tyF ?_;exact (go.out kl v' r _ _ zL S5 g24 m1 rx J0.out V5).1
   have e1:(x.kind==4)=false:=zB5 c4;have e2:lEq x.good []=true:=by rw[bO,c1.resolve_left c4];rfl
   clear c1 c4;refine zW tyF ?_;exact (go.out kl v' r _ _ zL S5 g24 m1 rx J0.out V5).1
  have J0:=F0.out;rw[zB1 c1] at J0;have e1:(x.kind==4)=false:=zB5 fun h=>c1 (.inl h);have e2:lEq x.good []=false:=by rw[bO];exact zB5 fun h=>c1 (.inr h)
  replace J0:Hd _:=J0;clear F0 c1;refine zW tyF ?_;refine zG (qA tyF yb) fun K3 l5=>?_;refine WE.con (ky H4 gv gs x.good hg4 hL) fun w5 H5 g5 E5=>?_;subst E5;have rx:=(g5.get _ m1 zB2).trans rx;have m1:=zA0 m1 g5.nx;have rM:=(g5.get _ mM zB2).trans rM;have mM:=zA0 mM g5.nx;have k9:=V5.gr jR iQ g5;have g25:=g24.gr g5;have hg5:=hg4.gr g5;have hp5:=hp4.gr g5;have E5:=X6.gr g5;clear V5 g24 hg4 hp4 X6 g5;by_cases c2:bp 0 gs x.good<0
  ·have hn:(([]:List (Cl×Int)),(4:Int))=r0:=by rw[←J0.out];exact (zB0 c2).symm
   obtain ⟨b1,b2⟩:=bad 4 H5 hn;replace b1:Hd _:=b1;replace b2:Hd _:=b2;clear J0 hn go bad;refine zK tyF ?_;exact p4.out _ _ (k4.out _ _ (fin _ _ _ _ _ qp qp qe g25 b1.out b2.out))
  have N2:=J0.out;rw[zB1 c2] at N2;replace N2:Hd _:=N2;clear J0;obtain ⟨gi,hgi,V3,hgn⟩:=jD (by omega:0≤bp 0 gs x.good);rw[hgi] at c2 ⊢;have I6:=(List.getElem?_eq_some_iff.1 V3).1;obtain ⟨gid,gg,goff,gcells,rfl,X_,Y_,I8⟩:=hg5.open (by omega);obtain ⟨gu,F7⟩:=I8 gi _ V3;have z1:=F7.le;have hgu:=F7.of;have lu:=hgu.len;have lu2:=hgu.lt;have z2:(gcells.drop (goff+gi*3+2)).headD (.b false)=gu:=F7.f3;have z3:(gcells.drop (goff+gi*3+1)).headD (.b false)=.o (.str (fP gs x.good).2.1):=F7.f2;have z4:=F7.le2;have z5:=F7.le3;clear V3 I8 F7 hgi hgn;generalize fP gs x.good=gd at *;have lo5:=k9.lt;have ll5:cQ H5 1 (.one v')=.val (.one (.i .i64 (kl.length:Int))) H5:=by
   have:=k9.slr.len;rwa [List.length_map] at this
  refine zE tyF ?_;refine zR tyF ?_;refine zX tyF ?_;refine R1.aT ?_;repeat refine R1.aE ?_
  refine R1.s_h (by kernel_rfl) fun K6 hK6=>?_;have key:Hd (∀ (b:Bool) (A:ab),slot A.tm 0=.one ((.o (.sl gid gg goff gs.length 3)))∧slot A.tm 3=.one ((.o (.ptr N 0 0 2)))∧slot A.tm 6=.one (v')∧slot A.tm 7=.one (.i .i64 (i:Int))∧slot A.tm 8=.one ((.o (.ptr M 0 0 8)))∧slot A.tm 9=.one (.i .i64 (gi:Int))∧slot A.tm 47=.one (.b b)∧A.nt=67∧A.dfr=[]→decide (x.kind=1∧gd.2.2≠[])=b→K6 A H5):=by
   clear t0 t3 t6 t7 t8 B0 C0 A lu lu2 hgu z2 z5;rintro b A ⟨t0,t3,t6,t7,t8,t9,t47,B0,C0⟩ hb;refine hK6.out _ _ ?_;clear hK6 K6;cases b with
   | true=>
    have hn:(([]:List (Cl×Int)),(52:Int))=r0:=by rw[←N2.out];exact (zB0 (of_decide_eq_true hb)).symm
    obtain ⟨b1,b2⟩:=bad 52 H5 hn;replace b1:Hd _:=b1;replace b2:Hd _:=b2;clear N2 hn go bad hb;refine zW tyF ?_;exact p4.out _ _ (k4.out _ _ (fin _ _ _ _ _ qp qp qe g25 b1.out b2.out))
   | false=>
   have u6:=N2.out;rw[zB1 (of_decide_eq_false hb)] at u6;clear N2 hb;by_cases c4:kl.length=64
   ·have hn:(([]:List (Cl×Int)),(3:Int))=r0:=by rw[←u6];exact (zB0 c4).symm
    obtain ⟨b1,b2⟩:=bad 3 H5 hn;have e5:((kl.length:Int)==64)=true:=beq_iff_eq.2 (by omega);replace b1:Hd _:=b1;replace b2:Hd _:=b2;clear u6 hn go bad c4;refine zW tyF ?_;exact p4.out _ _ (k4.out _ _ (fin _ _ _ _ _ qp qp qe g25 b1.out b2.out))
   rw[zB1 c4] at u6;have e5:((kl.length:Int)==64)=false:=zB5 (by omega);replace u6:Hd _:=u6;clear bad fin;refine zW tyF ?_;refine zH (qA tyF (qA (ixC I6) uU)) fun K7 hK7=>?_;refine WE.Rc (zQ H5 p q x.num hp5 E5 hBn) fun w6 H6 g6 ⟨p',q',hq6,D2,Z2,ip,iq⟩=>?_;subst hq6;have p_:=k9.gr jR iQ g6;have rx:=(g6.get _ m1 zB2).trans rx;have m1:=zA0 m1 g6.nx;have g26:=g25.gr g6;have n56:=g6.nx;have V2:∀ id∈ju [.i .i64 (i:Int),.o (.str x.good),.o (.str gd.2.1),p',q'],¬id<N+1∧some id≠r:=fun id hid=>by
    rw[tS] at hid;have h1:H5.nx≤id:=by
     rcases List.mem_append.1 hid with h|h
     ·exact ip id h
     exact iq id h
    refine ⟨by omega,fun e=>?_⟩;have:=(k9.row id e.symm).2;omega
   have W0:ClR H6 [.i .i64 (i:Int),.o (.str x.good),.o (.str gd.2.1),p',q'] ((i:Int),x.good,gd.2.1,x.num):=⟨p',q',rfl,D2,Z2⟩;obtain ⟨N4,v7,H7,r7,U1,j9,W4,hr7⟩:=p_.push jR iQ mZ Nw hz.out X0.out (by decide) (fun j h=>by omega) rfl W0 V2 (by rw[List.length_map];omega);have r17:=(W4.get _ m1 fun e=>(p_.row _ e).1 (by omega)).trans rx;have m17:=zA0 m1 W4.nx;have g27:Gr H H7:=g26.then W4 fun q hq=>.inl (by have:=(p_.row q hq).1;have:=hN.out;omega);have N3:(kl++[(((i:Int),x.good,gd.2.1,x.num),x.kind)]).map Prod.fst=kl.map Prod.fst++[((i:Int),x.good,gd.2.1,x.num)]:=by rw[List.map_append];rfl
   rw[←N3] at j9;have I':(kl++[(((i:Int),x.good,gd.2.1,x.num),x.kind)]).length≤64:=by rw[List.length_append];show kl.length+1≤64;omega
   clear k9 p_ V2 W0 N3 hp5 E5 D2 Z2 W4 hr7 g26 g25 g6 rx X_ Y_ hg5 ll5 lo5;replace j9:Hd _:=j9;refine zS (qA tyF iz) ?_;refine ⟨N4,?_⟩;refine zE tyF ?_;exact (go.out _ v7 (some r7) _ _ zL I' g27 m17 r17 u6.out j9.out).2
  clear N2 go;by_cases c5:x.kind=1
  ·have e3:(x.kind==1)=true:=beq_iff_eq.2 c5;by_cases c6:gd.2.2=[]
   ·have e4:¬(0:Int)<(gd.2.2.length:Int):=by rw[c6];decide
    have e6:decide (x.kind=1∧gd.2.2≠[])=false:=decide_eq_false fun h=>h.2 c6;replace e6:Hd _:=e6;clear c5 c6;refine zS (qA tyF (ixC I6)) ?_;exact key.out _ _ zL e6.out
   have e4:(0:Int)<(gd.2.2.length:Int):=by
    have:gd.2.2.length≠0:=fun h=>c6 (List.eq_nil_of_length_eq_zero h);omega
   have e6:decide (x.kind=1∧gd.2.2≠[])=true:=decide_eq_true ⟨c5,c6⟩;replace e6:Hd _:=e6;clear c5 c6;refine zS (qA tyF (ixC I6)) ?_;exact key.out _ _ zL e6.out
  have e3:(x.kind==1)=false:=zB5 c5;have e6:decide (x.kind=1∧gd.2.2≠[])=false:=decide_eq_false fun h=>c5 h.1;replace e6:Hd _:=e6;clear c5;refine zS (qA tyF (ixC I6)) ?_;exact key.out _ _ zL e6.out
 have C2:i=cs.length:=by omega
 subst C2;have hn:=hr.out;rw[List.drop_length,cA] at hn;have b1:(0:Int)=r0.2:=by rw[←hn]
 have b2:bK ClR 5 84 (fun j=>j<H.nx) H2 v' (r0.1.map Prod.fst) r:=by rw[←hn];exact ho.less fun j h=>by have:=hN.out;omega
 clear hr hn bad ho;replace b1:Hd _:=b1;replace b2:Hd _:=b2;refine zW tyF ?_;refine k2.out _ _ ?_;refine zW tyF ?_;exact fin _ _ _ _ _ qp qp qe g2 b1.out b2.out
theorem uP:ak Tryz.prog 35=true:=by kernel_rfl
theorem Bh:ak Tryz.prog 10=true:=by kernel_rfl
def Xp (gs:List Gd) (cs:List Cs) (x:Cl×Int):Prop:=∃ (j:Nat) (c:Cs),x.1.1=(j:Int)∧cs[j]?=some c∧c.kind=x.2∧c.good=x.1.2.1∧0≤bp 0 gs x.1.2.1∧x.1.2.2.1=(fP gs x.1.2.1).2.1∧x.1.2.2.2=c.num∧x.2≠4∧x.1.2.1≠[]
theorem oe (gs:List Gd) (all:List Cs):∀ (i:Nat) (cs:List Cs) (acc:List (Cl×Int)),all.drop i=cs→(∀ x∈acc,Xp gs all x)→acc.length≤64→(∀ x∈(cA gs i cs acc).1,Xp gs all x)∧(cA gs i cs acc).1.length≤64
 | _,[],acc,_,h,hl=>⟨h,hl⟩
 | i,c::cs,acc,hd,h,hl=>by
  have hc:all[i]?=some c:=by
   have h1:(all.drop i)[0]?=some c:=by rw[hd];rfl
   rw[List.getElem?_drop] at h1;exact h1
  have hd2:all.drop (i+1)=cs:=by
   rw[←List.drop_drop,hd];rfl
  unfold cA;split
  ·exact oe gs all (i+1) cs acc hd2 h hl
  rename_i c1
  split
  ·exact ⟨(fun _ h=>by cases h),Nat.zero_le _⟩
  rename_i c2
  split
  ·exact ⟨(fun _ h=>by cases h),Nat.zero_le _⟩
  split
  ·exact ⟨(fun _ h=>by cases h),Nat.zero_le _⟩
  rename_i c4
  refine oe gs all (i+1) cs _ hd2 (fun x hx=>?_) (by rw[List.length_append];show acc.length+1≤64;omega);rcases List.mem_append.1 hx with hx|hx
  ·exact h x hx
  rw[List.mem_singleton.1 hx];exact ⟨i,c,rfl,hc,rfl,rfl,by show 0≤bp 0 gs c.good;omega,rfl,rfl,fun h=>c1 (.inl h),fun h=>c1 (.inr h)⟩
theorem Ga (key:List UInt8×Int):∀ (n a:Nat) (l:List (Cl×Int)),a≤n→dq key n a l≤n+l.length
 | n,a,[],h=>by simpa [dq] using h
 | n,a,x::l,h=>by
  show dq key (n+1) _ l≤_;have:=Ga key (n+1) (if x.1.2.1=key.1∧x.2=key.2 then n+1 else a) l (by split <;> omega);rw[List.length_cons];omega
theorem xb (g:Gd) (fr:Nat):∀ (n:Nat) (l:List (Cl×Int)),n+l.length≤fr→bR g fr n l=[]
 | _,[],_=>rfl
 | n,x::l,h=>by
  rw[List.length_cons] at h;show (if fr≤n∧x.2=1∧dD g x.1.2.1=true then (n:Int)::bR g fr (n+1) l else bR g fr (n+1) l)=[];rw[zB1 (fun h'=>by have:=h'.1;omega),xb g fr (n+1) l (by omega)]
theorem wz (g:Gd) (fr:Nat):∀ (n:Nat) (l:List (Cl×Int)) (x:Cl×Int),bR g fr n (l++[x])=bR g fr n l++(if fr≤n+l.length∧x.2=1∧dD g x.1.2.1=true then [((n+l.length:Nat):Int)] else [])
 | n,[],x=>by
  simp[bR]
 | n,y::l,x=>by
  have e:n+1+l.length=n+(l.length+1):=by omega
  show (if fr≤n∧y.2=1∧dD g y.1.2.1=true then (n:Int)::bR g fr (n+1) (l++[x]) else bR g fr (n+1) (l++[x]))=(if fr≤n∧y.2=1∧dD g y.1.2.1=true then (n:Int)::bR g fr (n+1) l else bR g fr (n+1) l)++_;rw[wz g fr (n+1) l x,List.length_cons,e];split <;> rfl
theorem oS (g:Gd) (fr:Nat):∀ (n:Nat) (l:List (Cl×Int)),(bR g fr n l).length≤l.length
 | _,[]=>zA1 _
 | n,x::l=>by
  have:=oS g fr (n+1) l;show (if fr≤n∧x.2=1∧dD g x.1.2.1=true then (n:Int)::bR g fr (n+1) l else bR g fr (n+1) l).length≤l.length+1;split
  ·rw[List.length_cons];omega
  omega
theorem lI (gs:List Gd):∀ (pre l:List (Cl×Int)),(dn gs pre l).length≤l.length
 | _,[]=>zA1 _
 | pre,x::l=>by
  have:=lI gs (pre++[x]) l;show (iA gs pre x++dn gs (pre++[x]) l).length≤l.length+1;rw[List.length_append];unfold iA;split
  ·simp only[List.length_nil];omega
  simp only[List.length_cons,List.length_nil];omega
theorem kV {α:Type} {l:List α} {i:Nat} {x:α} (h:l[i]?=some x):l.take (i+1)=l.take i++[x]:=by
 rw[List.take_add_one,h];rfl
theorem dm.ids {H:Hp} {v:AC} {e:TypeId} {sz n:Nat} {cells:List AC} {r:Option Nat} (h:dm H v e sz n cells r):∀ id∈(AV.one v).ids,r=some id:=by
 rcases h with ⟨rfl,_⟩|⟨id,lo,gen,e,rfl,_⟩
 ·intro i hi;cases hi
 intro i hi;rw[List.mem_singleton.1 hi];exact e
theorem xu (H:Hp) (k gv v:AC) (o:Option (List Lad)) (gs:List Gd) (nm:List UInt8) (cs:List Cs) (hk:ql H k o) (G3:∀ ls,o=some ls→(∀ x∈ls,x.2.length≤1000000)∧ls.length≤1000000) (hg:SlG H gv gs) (hv:dI H v cs) (hB:TbB cs) (hO:∀ x∈gs,x.2.2.length≤4611686018427387904):
  Con E2 10 [.one k,.one gv,.agg [.o (.str nm),v]] H (fun _=>False) fun r H'=>∃ a b,r=.tup [(true,[a,b]),(false,[.i .i64 (eY o gs (nm,cs))])]∧jb H' a (js o gs (nm,cs)).1∧jt H' b (js o gs (nm,cs)).2:=by
 refine Con.of rfl fun lg=>?_;have hk:ql ⟨H.t,H.nx,lg⟩ k o:=by cases o <;> exact hk
 have hg:SlG ⟨H.t,H.nx,lg⟩ gv gs:=hg;have hv:dI ⟨H.t,H.nx,lg⟩ v cs:=hv;generalize (⟨H.t,H.nx,lg⟩:Hp)=H at hk hg hv ⊢;refine C1.body (E:=E2) (nt:=140) (res:=[.cell 6 37,.tmp 7]) Tryz.func10 rfl rfl rfl rfl rfl fun tm A0=>?_;have h0:=A0 0 _ rfl;have h1:=A0 1 _ rfl;have h2:=A0 2 _ rfl;clear A0;generalize S6:js o gs (nm,cs)=p0;generalize M1:eY o gs (nm,cs)=e0;have fin:∀ (a b:AC) (A:ab) (H9:Hp) (M:Nat),slot A.tm 6=.one (.o (.ptr M 0 0 2))→slot A.tm 7=.one (.i .i64 e0)→closeAll H9 A.dfr=some H9→H9.get M=some (.arr [a,b] 37 0 0)→Gr H H9→jb H9 a p0.1→jt H9 b p0.2 →
   ∃ w H4,an E2 [.cell 6 37,.tmp 7] (.ret,A,H9)=.ok [(w,H4)]∧Gr H H4∧∀ lg:List Nat,∃ a b,w=.tup [(true,[a,b]),(false,[.i .i64 e0])]∧jb ⟨H4.t,H4.nx,lg⟩ a p0.1∧jt ⟨H4.t,H4.nx,lg⟩ b p0.2:=fun a b A H9 M s6 s7 hd r1 P0 h1 h2=>
  ⟨_,H9,cE (.inr rfl) hd (uz jZ s6 (by rw[r1];exact TS) (zA1 _) rfl (Cd s7 Jn)),P0,fun lg=>⟨a,b,rfl,h1,h2⟩⟩
 have bad:∀ (e:Int),e≠0→e0=e→∀ H9:Hp,jb H9 (.o .nilS) p0.1∧jt H9 (.o .nilS) p0.2:=fun e Z0 he H9=>by
  have hk0:fQ o gs (nm,cs)=[]:=zB1 (by rw[M1,he];exact Z0);rw[←S6];unfold js;rw[hk0];exact ⟨⟨[],⟨rfl,.inl ⟨rfl,rfl⟩⟩,trivial⟩,⟨[],⟨rfl,.inl ⟨rfl,rfl⟩⟩,trivial⟩⟩
 have lv:=hv.lt;replace S6:Hd _:=S6;replace M1:Hd _:=M1;refine zG tyF fun K hK=>?_;refine hK.out _ _ ?_;refine R1.gen (fun A1 H1=>Gr H H1∧H.nx+1<H1.nx∧H1.get H.nx=some (.arr [.o (.str nm),v] 26 0 0)∧H1.get (H.nx+1)=some (.arr [.o .nilS,.o .nilS] 37 0 0)∧slot A1.tm 0=.one (k)∧slot A1.tm 1=.one (gv)∧slot A1.tm 5=.one ((.o (.ptr H.nx 0 0 2)))∧slot A1.tm 6=.one ((.o (.ptr (H.nx+1) 0 0 2)))∧A1.nt=140∧A1.dfr=[])
  ⟨((Fr.refl _).new _).new _,by show H.nx+1<H.nx+1+1;omega,by rw[aW (by show H.nx<H.nx+1;omega)];exact aB rfl,aB rfl,zL⟩ ?_
 clear h0 h1 h2 tm hK K lv;rintro A1 H1 ⟨g1,n1,r0,r1,t0,t1,t5,t6,B0,C0⟩;obtain ⟨N,hN⟩:∃ N,N=H.nx:=⟨_,rfl⟩;rw[←hN] at n1 r0 r1 t5 t6;replace hN:Hd _:=hN;have n0:N<H1.nx:=by omega
 have Q3:=hk.gr g1;have hg:=hg.gr g1;have hv:=hv.gr g1;refine zG (qA tyF wY) fun K hK=>?_;refine WE.con (tI H1 k gv o gs Q3 G3 hg hO) fun w2 H2 g2 W1=>?_;subst W1;have r0:=(g2.get _ n0 zB2).trans r0;have n0:=zA0 n0 g2.nx;have r1:=(g2.get _ n1 zB2).trans r1;have n1:=zA0 n1 g2.nx;have hg:=hg.gr g2;have hv:=hv.gr g2;have g2:=g1.gr g2;clear g1 Q3;by_cases c1:jS o gs=0
 case neg=>
  have he:e0=jS o gs:=by rw[←M1.out];exact zB0 c1
  obtain ⟨b1,b2⟩:=bad _ c1 he ((H2.mod (N+1) (.arr [.o .nilS,.o .nilS] 37 0 0)));have e1:(jS o gs==0)=false:=zB5 c1;rw[←he] at e1 ⊢;have g9:=g2.mod (i:=N+1) (.arr [.o .nilS,.o .nilS] 37 0 0) (.inl (by have:=hN.out;omega));replace b1:Hd _:=b1;replace b2:Hd _:=b2;replace g9:Hd _:=g9;clear c1 he bad;refine zK tyF ?_;exact fin _ _ _ _ (N+1) (by simp only[aa,Nat.reduceEqDiff,reduceIte,t6]) qp (by simp only[aj,C0];rfl) (al rfl) g9.out b1.out b2.out
 have hL:gs.length≤1000000:=vp c1;rw[c1];have lv:=hv.lt;refine zK tyF ?_;refine zG (qA tyF Ek) fun K hK=>?_;refine WE.con (CU H2 nm v cs hv hB) fun w3 H3 g3 S4=>?_;subst S4;have r0:=(g3.get _ n0 zB2).trans r0;have n0:=zA0 n0 g3.nx;have r1:=(g3.get _ n1 zB2).trans r1;have n1:=zA0 n1 g3.nx;have hg:=hg.gr g3;have hv:=hv.gr g3;have g3:=g2.gr g3;clear g2 lv;by_cases c2:kC (nm,cs)=0
 case neg=>
  have he:e0=kC (nm,cs):=by
   rw[←M1.out];unfold eY;rw[zB1 (fun h=>h c1),zB0 c2]
  obtain ⟨b1,b2⟩:=bad _ c2 he ((H3.mod (N+1) (.arr [.o .nilS,.o .nilS] 37 0 0)));have e1:(kC (nm,cs)==0)=false:=zB5 c2;rw[←he] at e1 ⊢;have g9:=g3.mod (i:=N+1) (.arr [.o .nilS,.o .nilS] 37 0 0) (.inl (by have:=hN.out;omega));replace b1:Hd _:=b1;replace b2:Hd _:=b2;replace g9:Hd _:=g9;clear c1 c2 he bad;refine zK tyF ?_;exact fin _ _ _ _ (N+1) (by simp only[aa,Nat.reduceEqDiff,reduceIte,t6]) qp (by simp only[aj,C0];rfl) (al rfl) g9.out b1.out b2.out
 rw[c2];have lv:=hv.lt;have lg3:=hg.lt;refine zK tyF ?_;refine zG (qA tyF Po) fun K hK=>?_;refine WE.con (Kq H3 gv v gs nm cs hg hv hB hL hO) fun w4 H4 g4 ⟨c4,ro4,X6,hoc⟩=>?_;subst X6;have r0:=(g4.get _ n0 zB2).trans r0;have n0:=zA0 n0 g4.nx;have r1:=(g4.get _ n1 zB2).trans r1;have n1:=zA0 n1 g4.nx;have hg:=hg.gr g4;have hv:=hv.gr g4;have g4:=g3.gr g4;clear g3 lv lg3;have Z9:e0=(cA gs 0 cs []).2:=by
  rw[←M1.out];unfold eY;rw[zB1 (fun h=>h c1),zB1 (fun h=>h c2)]
 have B3:=oe gs cs 0 cs [] rfl (fun _ h=>by cases h) (Nat.zero_le _);by_cases c3:(cA gs 0 cs []).2=0
 case neg=>
  obtain ⟨b1,b2⟩:=bad _ c3 Z9 ((H4.mod (N+1) (.arr [.o .nilS,.o .nilS] 37 0 0)));have e1:(e0==0)=false:=zB5 (by rw[Z9];exact c3);rw[←Z9];have g9:=g4.mod (i:=N+1) (.arr [.o .nilS,.o .nilS] 37 0 0) (.inl (by have:=hN.out;omega));replace b1:Hd _:=b1;replace b2:Hd _:=b2;replace g9:Hd _:=g9;replace hoc:Hd _:=hoc;clear c1 c2 c3 Z9 bad B3;refine zK tyF ?_;exact fin _ _ _ _ (N+1) (by simp only[aa,Nat.reduceEqDiff,reduceIte,t6]) qp (by simp only[aj,C0];rfl) (al rfl) g9.out b1.out b2.out
 have hpp:p0=((cA gs 0 cs []).1.map Prod.fst,dn gs [] (cA gs 0 cs []).1):=by
  rw[←S6.out];unfold js fQ;rw[zB0 (by rw[M1.out,Z9,c3])]
 rw[c3];rw[c3] at Z9;have mN3:N+1<H3.nx:=by have:=n1;omega
 generalize (cA gs 0 cs []).1=kl at hoc B3 hpp;have hcl4:jb H4 c4 (kl.map Prod.fst):=hoc.slr;replace hoc:=hoc.less (X':=fun j=>j=N+1) fun j h=>by rw[h];exact mN3
 subst Z9;clear c1 c2 c3 bad S6 M1;obtain ⟨B3,S5⟩:=B3;have lk:=hcl4.lt;have hkm:(kl.map Prod.fst).length=kl.length:=List.length_map _;obtain ⟨zr,hzr,hzrl⟩:=Nn;obtain ⟨zi,w_,E6⟩:=xm;replace hkm:Hd _:=hkm;replace hzr:Hd _:=hzr;replace hzrl:Hd _:=hzrl;replace w_:Hd _:=w_;replace E6:Hd _:=E6;replace hpp:Hd _:=hpp;refine zK tyF ?_;refine R1.gen (fun A5 H5=>Gr H4 H5∧H4.nx<H5.nx∧H5.get H4.nx=some (.arr [c4,.o .nilS] 37 0 0)∧slot A5.tm 1=.one (gv)∧slot A5.tm 5=.one ((.o (.ptr N 0 0 2)))∧slot A5.tm 6=.one ((.o (.ptr (N+1) 0 0 2)))∧slot A5.tm 10=.one (c4)∧slot A5.tm 12=.one ((.o (.ptr H4.nx 0 0 2)))∧slot A5.tm 13=.one ((.i .i64 0))∧A5.nt=140∧A5.dfr=[])
  ⟨((Fr.refl _).new _).mod _ (.inl (zA1 _)),zA6 _,al rfl,zL⟩ ?_
 clear t0 t1 t5 t6 B0 C0 A1;rintro A5 H5 ⟨g5,mU,rU,t1,t5,t6,t10,t12,t13,B0,C0⟩;obtain ⟨U,hU⟩:∃ U,U=H4.nx:=⟨_,rfl⟩;have nU:N+1<U:=by omega
 rw[←hU] at mU rU t12;obtain ⟨B,hB2⟩:∃ B,B=H5.nx:=⟨_,rfl⟩;have hUB:U<B:=by omega
 have hNB:H.nx≤N:=by have:=hN.out;omega
 have hUl:H4.nx≤U:=by omega
 have hBl:B≤H5.nx:=by omega
 clear hU hB2 lk;refine R1.cy fun K k1 k2 k3 k4=>?_;refine R1.loop (fun z A H6=>∃ (i:Nat) (u:AC) (r:Option Nat),z=kl.length - i∧i≤kl.length∧Gr H4 H6∧B≤H6.nx∧H6.get U=some (.arr [c4,u] 37 0 0)∧bK RlR 2 86 (fun j=>j<B) H6 u (dn gs [] (kl.take i)) r ∧
   slot A.tm 1=.one (gv)∧slot A.tm 5=.one ((.o (.ptr N 0 0 2)))∧slot A.tm 6=.one ((.o (.ptr (N+1) 0 0 2)))∧slot A.tm 10=.one (c4)∧slot A.tm 12=.one ((.o (.ptr U 0 0 2)))∧slot A.tm 13=.one (.i .i64 (i:Int))∧A.nt=140∧A.dfr=[]) ?_ kl.length
  ⟨0,.o .nilS,none,rfl,Nat.zero_le _,g5,hBl,rU,bK.nil,zL⟩
 clear t1 t5 t6 t10 t12 t13 B0 C0 A5 rU k3 g5 mU hBl H5;rintro z A H6 ⟨i,u,r,rfl,hi,g6,nB,rU,ho,t1,t5,t6,t10,t12,t13,B0,C0⟩;have hcl6:=hcl4.gr g6;have hv6:=hv.gr g6;have r06:=(g6.get _ n0 zB2).trans r0;have mN6:=zA0 n0 g6.nx;have mU6:U<H6.nx:=by omega
 have l1:cQ H6 1 (.one c4)=.val (.one (.i .i64 (kl.length:Int))) H6:=by have:=hcl6.len;rwa [hkm.out] at this
 have l2:=hcl6.lt;refine zW tyF ?_;refine zI tyF (fun hc=>?_) (fun hc=>?_)
 ·have D0:i<kl.length:=by omega
  obtain ⟨x,ex⟩:∃ x,kl[i]?=some x:=⟨_,zB4 D0⟩;have G0:=List.mem_of_getElem? ex;have V0:=zC0 i (by omega);obtain ⟨j,c,xj,xc,xk,xg,xi,xf,xn,x4,xe⟩:=B3 x G0;have hjlt:=(List.getElem?_eq_some_iff.1 xc).1;obtain ⟨gi,hgi,V3,hgn⟩:=jD xi;have hsn:=kV ex;have q7:=pn gs (kl.take i) [] x;rw[←hsn,List.nil_append] at q7;have lkt:(kl.take i).length=i:=by rw[List.length_take];omega
  obtain ⟨cid,cg,coff,ccells,ec,hcid,hcgr,J6⟩:=hcl6.open (by rw[hkm.out];omega);rw[hkm.out] at ec;have exm:(kl.map Prod.fst)[i]?=some x.1:=by rw[List.getElem?_map,ex];rfl
  obtain ⟨p,q,hx⟩:=J6 i _ exm;have y1:(ccells.drop (coff+i*5)).headD (.b false)=.i .i64 (j:Int):=by rw[←xj];exact hx.f1
  have y2:=hx.le1;obtain ⟨vid,vg,voff,vcells,ev,c_,hvgr,R7⟩:=hv6.open (by omega);obtain ⟨p2,q2,w2,hy⟩:=R7 j _ xc;have y3:(vcells.drop (voff+j*8+3)).headD (.b false)=.i .i64 x.2:=by rw[←xk];exact hy.f3
  have y4:voff+j*8+3+1≤vcells.length:=by have:=hy.le;omega
  clear hx hy exm;subst ec;subst ev;replace hsn:Hd _:=hsn;replace q7:Hd _:=q7;replace lkt:Hd _:=lkt;replace xj:Hd _:=xj;replace hgi:Hd _:=hgi;replace hgn:Hd _:=hgn;replace J6:Hd _:=J6;replace R7:Hd _:=R7;replace xf:Hd _:=xf;replace xk:Hd _:=xk;replace xg:Hd _:=xg;replace xn:Hd _:=xn;refine zW tyF ?_;refine R1.cy fun K2 p1 p2 p3 p4=>?_;by_cases c1:x.2=1
  ·have e1:(x.2==1)=true:=beq_iff_eq.2 c1;have hru:iA gs (kl.take i) x=[]:=zB0 c1;have hrn:dn gs [] (kl.take (i+1))=dn gs [] (kl.take i):=by rw[q7.out,hru,List.append_nil]
   rw[←hrn] at ho;clear hrn hru c1 l1 l2;replace ho:Hd _:=ho;refine zW (qA tyF (qA (ixC D0) (ixC hjlt))) ?_;refine p2.out _ _ ?_;refine zW tyF ?_;exact ⟨kl.length - (i+1),by omega,i+1,u,r,rfl,D0,g6,nB,rU,ho.out,zL⟩
  have e1:(x.2==1)=false:=zB5 c1;have hru:iA gs (kl.take i) x=[((i:Int),bR (fP gs x.1.2.1) (dq (x.1.2.1,x.2) 0 0 (kl.take i)) 0 (kl.take i))]:=by
   unfold iA;rw[zB1 c1,lkt.out]
  replace hru:Hd _:=hru;clear c1;refine zW (qA tyF (qA (ixC D0) (ixC hjlt))) ?_;refine R1.cy fun K5 m1 m2 m3 m4=>?_;refine R1.loop (fun z A H7=>∃ n:Nat,z=i - n∧n≤i∧H6=H7∧slot A.tm 1=.one (gv)∧slot A.tm 5=.one ((.o (.ptr N 0 0 2)))∧slot A.tm 6=.one ((.o (.ptr (N+1) 0 0 2)))∧slot A.tm 10=.one ((.o (.sl cid cg coff kl.length 5)))∧slot A.tm 12=.one ((.o (.ptr U 0 0 2)))∧slot A.tm 13=.one (.i .i64 (i:Int))∧slot A.tm 14=.one ((.i .i64 x.2))∧slot A.tm 15=.one (.i .i64 ((dq (x.1.2.1,x.2) 0 0 (kl.take n)):Int))∧slot A.tm 16=.one (.i .i64 (n:Int))∧A.nt=140∧A.dfr=[]) ?_ i
   ⟨0,rfl,Nat.zero_le _,rfl,zL⟩
  clear t1 t5 t6 t10 t12 t13 B0 C0 A m3 l1 l2;rintro z A H7 ⟨n,rfl,hn,rfl,t1,t5,t6,t10,t12,t13,t14,t15,t16,B0,C0⟩;refine zW tyF ?_;refine zI tyF (fun hc=>?_) (fun hc=>?_)
  ·have hnl:n<kl.length:=by omega
   obtain ⟨y,ey⟩:∃ y,kl[n]?=some y:=⟨_,zB4 hnl⟩;have V0:=zC0 n (by omega);obtain ⟨j',c',yj,yc,yk,yg,yi,yf,yn,y4',ye⟩:=B3 y (List.mem_of_getElem? ey);have L7:=(List.getElem?_eq_some_iff.1 yc).1;have eym:(kl.map Prod.fst)[n]?=some y.1:=by rw[List.getElem?_map,ey];rfl
   have exm:(kl.map Prod.fst)[i]?=some x.1:=by rw[List.getElem?_map,ex];rfl
   obtain ⟨p',q',P8⟩:=J6.out n _ eym;obtain ⟨p5,q5,G4⟩:=J6.out i _ exm;have z1:(ccells.drop (coff+n*5)).headD (.b false)=.i .i64 (j':Int):=by rw[←yj];exact P8.f1
   have z2:=P8.le1;have z3:=P8.f2;have z4:=P8.le2;have z5:=G4.f2;have z6:=G4.le2;obtain ⟨p6,q6,w6,hz'⟩:=R7.out j' _ yc;have z7:(vcells.drop (voff+j'*8+3)).headD (.b false)=.i .i64 y.2:=by rw[←yk];exact hz'.f3
   have z8:voff+j'*8+3+1≤vcells.length:=by have:=hz'.le;omega
   have T5:=kH (x.1.2.1,x.2) 0 0 (kl.take n) y;rw[←kV ey] at T5;have lkt':(kl.take n).length=n:=by rw[List.length_take];omega
   rw[lkt',Nat.zero_add] at T5;clear yj yk yg yi yf yn y4' ye G4 P8 hz' eym exm ey yc lkt' y1 y2;clear D0 G0 ex x4 xe;have o8:n+1≤i:=by omega
   have go:Hd (∀ A:ab,slot A.tm 1=.one (gv)∧slot A.tm 5=.one ((.o (.ptr N 0 0 2)))∧slot A.tm 6=.one ((.o (.ptr (N+1) 0 0 2)))∧slot A.tm 10=.one ((.o (.sl cid cg coff kl.length 5)))∧slot A.tm 12=.one ((.o (.ptr U 0 0 2)))∧slot A.tm 13=.one (.i .i64 (i:Int))∧slot A.tm 14=.one ((.i .i64 x.2))∧slot A.tm 15=.one (.i .i64 ((dq (x.1.2.1,x.2) 0 0 (kl.take (n+1))):Int))∧slot A.tm 16=.one (.i .i64 ((n+1):Int))∧A.nt=140∧A.dfr=[]→∃ z',z'<i - n∧∃ n':Nat,z'=i - n'∧n'≤i∧H6=H6∧slot A.tm 1=.one (gv)∧slot A.tm 5=.one ((.o (.ptr N 0 0 2)))∧slot A.tm 6=.one ((.o (.ptr (N+1) 0 0 2)))∧slot A.tm 10=.one ((.o (.sl cid cg coff kl.length 5)))∧slot A.tm 12=.one ((.o (.ptr U 0 0 2)))∧slot A.tm 13=.one (.i .i64 (i:Int))∧slot A.tm 14=.one ((.i .i64 x.2))∧slot A.tm 15=.one (.i .i64 ((dq (x.1.2.1,x.2) 0 0 (kl.take n')):Int))∧slot A.tm 16=.one (.i .i64 (n':Int))∧A.nt=140∧A.dfr=[]):=fun A h=>⟨i - (n+1),by omega,n+1,rfl,o8,rfl,h⟩;refine zW tyF ?_;refine R1.cy fun K6 u1 u2 u3 u4=>?_;by_cases d1:y.2=x.2
   ·have e2:(y.2==x.2)=true:=beq_iff_eq.2 d1;by_cases d2:y.1.2.1=x.1.2.1
    ·have e3:lEq y.1.2.1 x.1.2.1=true:=by rw[bO];exact beq_iff_eq.2 d2
     have e4:(y.1.2.1==x.1.2.1)=true:=beq_iff_eq.2 d2;rw[zB0 ⟨d2,d1⟩] at T5;rw[T5] at go;clear d1 d2 T5;refine zW (qA tyF (qA (ixC hnl) (qA (ixC L7) (ixC (show i<kl.length by omega))))) ?_;refine u1.out _ _ ?_;refine zW tyF ?_;exact go.out _ zL
    have e3:lEq y.1.2.1 x.1.2.1=false:=by rw[bO];exact zB5 d2
    have e4:(y.1.2.1==x.1.2.1)=false:=zB5 d2;rw[zB1 (fun h=>d2 h.1)] at T5;rw[T5] at go;clear d1 d2 T5;refine zW (qA tyF (qA (ixC hnl) (qA (ixC L7) (ixC (show i<kl.length by omega))))) ?_;refine u1.out _ _ ?_;refine zW tyF ?_;exact go.out _ zL
   have e2:(y.2==x.2)=false:=zB5 d1;rw[zB1 (fun h=>d1 h.2)] at T5;rw[T5] at go;clear d1 T5;refine zW (qA tyF (qA (ixC hnl) (ixC L7))) ?_;refine u1.out _ _ ?_;refine zW tyF ?_;exact go.out _ zL
  have Z0:n=i:=by omega
  subst Z0;clear hn;refine zW tyF ?_;refine m2.out _ _ ?_;clear m1 m2 m4;have p8:dq (x.1.2.1,x.2) 0 0 (kl.take n)≤n:=by have:=Ga (x.1.2.1,x.2) 0 0 (kl.take n) (zA1 _);rw[lkt.out] at this;omega
  have G9:=xb (fP gs x.1.2.1) (dq (x.1.2.1,x.2) 0 0 (kl.take n)) 0 ((kl.take n).take (dq (x.1.2.1,x.2) 0 0 (kl.take n))) (by rw[List.length_take];omega);rw[List.take_take,Nat.min_eq_left p8] at G9;generalize T5:dq (x.1.2.1,x.2) 0 0 (kl.take n)=fr at p8 G9 t15;replace T5:Hd _:=T5;have d_:=hru.out;rw[T5.out] at d_;replace d_:Hd _:=d_;replace G9:Hd _:=G9;clear hru T5;have hg7:=hg.gr g6;have mU7:=mU6;have rU7:=rU;refine zW tyF ?_;refine R1.gen (fun A8 H8=>Gr H6 H8∧H6.nx<H8.nx∧H8.get H6.nx=some (.arr [.i .i64 (n:Int),.o .nilS] 86 0 0)∧slot A8.tm 1=.one (gv)∧slot A8.tm 5=.one ((.o (.ptr N 0 0 2)))∧slot A8.tm 6=.one ((.o (.ptr (N+1) 0 0 2)))∧slot A8.tm 10=.one ((.o (.sl cid cg coff kl.length 5)))∧slot A8.tm 12=.one ((.o (.ptr U 0 0 2)))∧slot A8.tm 13=.one (.i .i64 (n:Int))∧slot A8.tm 17=.one ((.o (.ptr H6.nx 0 0 2)))∧slot A8.tm 18=.one (.i .i64 (fr:Int))∧A8.nt=140∧A8.dfr=[])
   ⟨((Fr.refl _).new _).mod _ (.inl (zA1 _)),zA6 _,al rfl,zL⟩ ?_
  clear t1 t5 t6 t10 t12 t13 t14 t15 t16 B0 C0 A;rintro A8 H8 ⟨g8,mM,rM,t1,t5,t6,t10,t12,t13,t17,t18,B0,C0⟩;obtain ⟨M,hM⟩:∃ M,M=H6.nx:=⟨_,rfl⟩;have hUM:U<M:=by omega
  have hBM:B≤M:=by omega
  have hMl:H6.nx≤M:=Nat.le_of_eq hM.symm;have hMr:M≤H6.nx:=Nat.le_of_eq hM;rw[←hM] at mM rM t17;clear hM;refine R1.cy fun K7 w1 w2 w3 w4=>?_;refine R1.loop (fun z A H9=>∃ (m:Nat) (v5:AC) (r5:Option Nat),z=n - m∧fr≤m∧m≤n∧Gr H6 H9∧M<H9.nx∧H9.get M=some (.arr [.i .i64 (n:Int),v5] 86 0 0)∧dm H9 v5 3 1 (bR (fP gs x.1.2.1) fr 0 (kl.take m)).length ((bR (fP gs x.1.2.1) fr 0 (kl.take m)).flatMap tK) r5∧(∀ q,r5=some q→M<q)∧slot A.tm 1=.one (gv)∧slot A.tm 5=.one ((.o (.ptr N 0 0 2)))∧slot A.tm 6=.one ((.o (.ptr (N+1) 0 0 2)))∧slot A.tm 10=.one ((.o (.sl cid cg coff kl.length 5)))∧slot A.tm 12=.one ((.o (.ptr U 0 0 2)))∧slot A.tm 13=.one (.i .i64 (n:Int))∧slot A.tm 17=.one ((.o (.ptr M 0 0 2)))∧slot A.tm 18=.one (.i .i64 (m:Int))∧A.nt=140∧A.dfr=[]) ?_ (n - fr)
   ⟨fr,.o .nilS,none,rfl,zA1 _,p8,g8,mM,rM,by rw[G9.out];exact .inl ⟨rfl,rfl,rfl,rfl⟩,fun q hq=>(by cases hq),zL⟩
  clear t1 t5 t6 t10 t12 t13 t17 t18 B0 C0 A8 w3 g8 mM rM H8;rintro z A H9 ⟨m,v5,r5,rfl,hfm,hm,g9,mM,rM,P1,I1,t1,t5,t6,t10,t12,t13,t17,t18,B0,C0⟩;refine zW tyF ?_;refine zI tyF (fun hc=>?_) (fun hc=>?_)
  ·have hml:m<kl.length:=by omega
   obtain ⟨y,ey⟩:∃ y,kl[m]?=some y:=⟨_,zB4 hml⟩;have V0:=zC0 m (by omega);obtain ⟨j',c',yj,yc,yk,yg,yi,yf,yn,y4',ye⟩:=B3 y (List.mem_of_getElem? ey);have L7:=(List.getElem?_eq_some_iff.1 yc).1;have eym:(kl.map Prod.fst)[m]?=some y.1:=by rw[List.getElem?_map,ey];rfl
   have exm:(kl.map Prod.fst)[n]?=some x.1:=by rw[List.getElem?_map,ex];rfl
   obtain ⟨p',q',P8⟩:=J6.out m _ eym;obtain ⟨p5,q5,G4⟩:=J6.out n _ exm;have z1:(ccells.drop (coff+m*5)).headD (.b false)=.i .i64 (j':Int):=by rw[←yj];exact P8.f1
   have z2:=P8.le1;have z3:=P8.f2;have z4:=P8.le2;have z5:=G4.f2;have z6:=G4.le2;obtain ⟨p6,q6,w6,hz'⟩:=R7.out j' _ yc;have z7:(vcells.drop (voff+j'*8+3)).headD (.b false)=.i .i64 y.2:=by rw[←yk];exact hz'.f3
   have z8:voff+j'*8+3+1≤vcells.length:=by have:=hz'.le;omega
   have R5:=wz (fP gs x.1.2.1) fr 0 (kl.take m) y;rw[←kV ey] at R5;have lkt':(kl.take m).length=m:=by rw[List.length_take];omega
   rw[lkt',Nat.zero_add] at R5;have B7:=oS (fP gs x.1.2.1) fr 0 (kl.take m);rw[lkt'] at B7;have hg9:=hg7.gr g9;have r09:=(g9.get _ mN6 zB2).trans r06;have mN9:=zA0 mN6 g9.nx;have hcid9:=zA0 hcid g9.nx;have hcgr9:rowOf (H9.get cid) cg=some ccells:=by rw[g9.get _ hcid zB2];exact hcgr
   have hvid9:=zA0 c_ g9.nx;have hvgr9:rowOf (H9.get vid) vg=some vcells:=by rw[g9.get _ c_ zB2];exact hvgr
   have hnlt:n<kl.length:=by omega
   clear yj yk yg yi yf yn y4' ye G4 P8 hz' eym exm ey yc lkt' y1 y2 y3 y4 R7 J6 G9 d_;have hm1:m+1≤n:=by omega
   have hfm1:fr≤m+1:=by omega
   replace R5:Hd _:=R5;refine zW tyF ?_;refine R1.cy fun K8 u1 u2 u3 u4=>?_;by_cases d1:y.2=1
   ·have e2:(y.2==1)=true:=beq_iff_eq.2 d1;refine zG (qA tyF (qA (ixC hml) (qA (ixC L7) (qA (ixC hnlt) uP)))) fun K9 hK9=>?_;refine WE.con (Fq H9 gv gs y.1.2.1 x.1.2.1 gi (fP gs x.1.2.1) hg9 hL hO hgi.out V3 hgn.out) fun w10 H10 g10 B9=>?_;subst B9;have r010:=(g10.get _ mN9 zB2).trans r09;have mN10:=zA0 mN9 g10.nx;have rM10:=(g10.get _ mM zB2).trans rM;have mM10:=zA0 mM g10.nx;have P3:=P1.fr g10 fun _ _ h=>h;have g910:=g9.gr g10;clear r09 mN9 rM P1 hg9;cases hb:dD (fP gs x.1.2.1) y.1.2.1 with
    | true=>
     have Y7:=R5.out;rw[zB0 ⟨hfm,d1,hb⟩] at Y7;obtain ⟨N4,v6,H11,r6,U1,p_,G7,hr6⟩:=gZ fv sA w_.out E6.out (by decide) P3 [.i .i64 (m:Int)] rfl (by omega);have rM11:=(G7.get _ mM10 fun e=>by have:=I1 _ e;omega).trans rM10;have mM11:=zA0 mM10 G7.nx;have g11:Gr H6 (H11.mod M (.arr [.i .i64 (n:Int),v6] 86 0 0)):=(g910.then G7 fun q hq=>.inl (by have:=I1 q hq;omega)).mod _ (.inl hMl);have hM6:M<r6:=by
      rcases hr6 with e|e
      ·exact I1 _ e
      omega
     have E9:=p_.fr (H':=H11.mod M (.arr [.i .i64 (n:Int),v6] 86 0 0)) (X:=fun i=>i=M) ((Fr.refl _).mod _ (.inr rfl)) fun i hi h=>by cases hi;omega
     have hpe:dm (H11.mod M (.arr [.i .i64 (n:Int),v6] 86 0 0)) v6 3 1 (bR (fP gs x.1.2.1) fr 0 (kl.take (m+1))).length ((bR (fP gs x.1.2.1) fr 0 (kl.take (m+1))).flatMap tK) (some r6):=by
      rw[Y7,List.length_append,List.flatMap_append];exact E9
     have mM12:M<(H11.mod M (.arr [.i .i64 (n:Int),v6] 86 0 0)).nx:=mM11;clear E9 p_ Y7 hr6 G7 P3 g910 d1 g10 r010 hb;replace hpe:Hd _:=hpe;replace g11:Hd _:=g11;refine zK tyF ?_;refine zG (qA tyF (qA (iz) U1)) fun K9 hK9=>?_;refine ⟨N4,?_⟩;refine zK tyF ?_;refine u1.out _ _ ?_;refine zW tyF ?_;exact ⟨n - (m+1),by omega,m+1,v6,some r6,rfl,hfm1,hm1,g11.out,mM12,al rfl,hpe.out,fun q hq=>by cases hq;exact hM6,zL⟩
    | false=>
     have Y7:=R5.out;rw[zB1 (fun h=>by rw[hb] at h;exact absurd h.2.2 (by decide)),List.append_nil] at Y7;rw[←Y7] at P3;clear Y7 d1 hb g10;refine zK tyF ?_;refine u1.out _ _ ?_;refine zW tyF ?_;exact ⟨n - (m+1),by omega,m+1,v5,r5,rfl,hfm1,hm1,g910,mM10,rM10,P3,I1,zL⟩
   have e2:(y.2==1)=false:=zB5 d1;have Y7:=R5.out;rw[zB1 (fun h=>d1 h.2.1),List.append_nil] at Y7;rw[←Y7] at P1;clear Y7 d1;refine zW (qA tyF (qA (ixC hml) (qA (ixC L7) (qA (ixC hnlt) uP)))) ?_;refine u1.out _ _ ?_;refine zW tyF ?_;exact ⟨n - (m+1),by omega,m+1,v5,r5,rfl,hfm1,hm1,g9,mM,rM,P1,I1,zL⟩
  have Z0:m=n:=by omega
  subst Z0;have hsl:SlI H9 v5 (bR (fP gs x.1.2.1) fr 0 (kl.take m)):=P1.slc;have F6:=dm.ids P1;have ho9:=ho.gr mL kU g9;have V2:∀ id∈ju [.i .i64 (m:Int),v5],¬id<B∧some id≠r:=fun id hid=>by
   rw[tU] at hid;have h1:=I1 id (F6 id hid);refine ⟨by omega,fun e=>?_⟩;have:=(ho.row id e.symm).2;omega
  have hrll:=lI gs [] (kl.take m);rw[lkt.out] at hrll;obtain ⟨N4,v7,H10,r7,U1,j9,W4,hr7⟩:=ho9.push mL kU lZ Lp hzr.out hzrl.out (by decide) (fun j h=>by omega) (c0:=[.i .i64 (m:Int),v5]) (x:=((m:Int),bR (fP gs x.1.2.1) fr 0 (kl.take m))) rfl ⟨v5,rfl,hsl⟩ V2 (by omega);have mU9:=zA0 mU7 g9.nx;have rU9:=(g9.get _ mU7 zB2).trans rU7;have hrU:¬r=some U:=fun e=>(ho.row _ e).1 hUB;have rU10:=(W4.get _ mU9 hrU).trans rU9;have mU10:=zA0 mU9 W4.nx;have g10:Gr H4 (H10.mod U (.arr [.o (.sl cid cg coff kl.length 5),v7] 37 0 0)):=((g6.gr g9).then W4 fun q hq=>.inl (by have:=(ho.row q hq).1;omega)).mod _ (.inl hUl);have ho8:=j9.fr mL kU (Y:=fun i=>i=U) (H':=H10.mod U (.arr [.o (.sl cid cg coff kl.length 5),v7] 37 0 0)) ((Fr.refl _).mod _ (.inr rfl)) fun i h=>.inl (by omega);rw[←d_.out,←q7.out] at ho8;have nB10:B≤(H10.mod U (.arr [.o (.sl cid cg coff kl.length 5),v7] 37 0 0)).nx:=by show B≤H10.nx;have:=W4.nx;omega
  have hwi:=zC0 m (by omega);clear P1 hsl F6 V2 ho9 j9 W4 hr7 ho rU7 d_ q7 hrll hrU G9;replace ho8:Hd _:=ho8;replace g10:Hd _:=g10;refine zW tyF ?_;refine w2.out _ _ ?_;refine zG (qA tyF (qA (iz) U1)) fun K9 hK9=>?_;refine ⟨N4,?_⟩;refine zK tyF ?_;refine p1.out _ _ ?_;refine zW tyF ?_;exact ⟨kl.length - (m+1),by omega,m+1,v7,some r7,rfl,by omega,g10.out,nB10,al rfl,ho8.out,zL⟩
 have C2:i=kl.length:=by omega
 subst C2;rw[List.take_length] at ho;have b1:=(hoc.gr jR iQ g6).fr jR iQ (Y:=fun i=>i=N+1) (H':=H6.mod (N+1) (.arr [c4,u] 37 0 0)) ((Fr.refl _).mod _ (.inr rfl)) fun i h=>.inl h;have b2:=ho.fr mL kU (Y:=fun i=>i=N+1) (H':=H6.mod (N+1) (.arr [c4,u] 37 0 0)) ((Fr.refl _).mod _ (.inr rfl)) fun i h=>.inl (by rw[h];omega);have b1:jb (H6.mod (N+1) (.arr [c4,u] 37 0 0)) c4 p0.1:=by rw[hpp.out];exact b1.slr
 have b2:jt (H6.mod (N+1) (.arr [c4,u] 37 0 0)) u p0.2:=by rw[hpp.out];exact b2.slr
 have r16:=(g6.get _ n1 zB2).trans r1;have mN16:=zA0 n1 g6.nx;have g9:Gr H (H6.mod (N+1) (.arr [c4,u] 37 0 0)):=(g4.gr g6).mod _ (.inl (by omega));clear ho l1 l2 r06 mN6 hcl6 hv6 hpp;replace b1:Hd _:=b1;replace b2:Hd _:=b2;refine zW tyF ?_;refine k2.out _ _ ?_;refine zW tyF ?_;exact fin _ _ _ _ (N+1) (by simp only[aa,Nat.reduceEqDiff,reduceIte,t6]) qp (by simp only[aj,C0];rfl) (al rfl) g9 b1.out b2.out
def GS (_:Hp) (c:List AC) (x:Int):Prop:=c=[.i .i64 x]
theorem uf:FrR GS:=fun _ _ _ _ _ h _ _=>h
theorem ru:LtR GS:=fun H c x h i hi=>by
 have h:c=[.i .i64 x]:=h;subst h;cases hi
theorem YG:∀ (H:Hp) (lg:List Nat) (c:List AC) (x:Rl),RlR H c x→RlR ⟨H.t,H.nx,lg⟩ c x:=fun _ _ _ _ h=>h
theorem SY {H:Hp} {Q:List AC→Prop}:∀ {css:List (List AC)} {l:List Int},Al (fun c x=>c.length=1∧GS H c x∧Q c) css l→css.flatMap id=l.flatMap tK
 | [],[],_=>rfl
 | c::css,x::l,⟨⟨_,h,_⟩,h2⟩=>by
  have h:c=[.i .i64 x]:=h;subst h;rw[List.flatMap_cons,List.flatMap_cons,SY h2];rfl
theorem bK.sli {e:TypeId} {X:Nat→Prop} {H:Hp} {v:AC} {l:List Int} {r:Option Nat} (h:bK GS 1 e X H v l r):SlI H v l:=by
 obtain ⟨css,a,b⟩:=h.own;have:=a.slc;rw[SY b] at this;exact this
section
variable {α:Type}
theorem bK.DD {R:Hp→List AC→α→Prop} (hl:LtR R) {sz:Nat} {e:TypeId} {X X':Nat→Prop} {H:Hp} {v:AC} {l:List α} {r:Option Nat} (h:bK R sz e X H v l r) (hx:∀ i,X' i→X i∨H.nx≤i):bK R sz e X' H v l r:=(h.Yr hl).less hx
def sx (X:Nat→Prop) (col:Nat→Nat) (k:Nat):Nat→Prop:=fun j=>X j∨col j≠k
def OQ (n:Nat) (col:Nat→Nat) (k:Nat):Nat→Nat:=fun j=>if j<n then col j else k
theorem Ve {n:Nat} {col:Nat→Nat} {k j:Nat} (h:j<n):OQ n col k j=col j:=zB0 h
theorem Lc {n:Nat} {col:Nat→Nat} {k j:Nat} (h:n≤j):OQ n col k j=k:=zB1 (by omega)
theorem Qx {X:Nat→Prop} {col:Nat→Nat} {n k k2 j:Nat} (h:sx X (OQ n col k) k2 j):sx X col k2 j∨n≤j:=by
 by_cases hj:j<n
 ·rcases h with h|h
  ·exact .inl (.inl h)
  exact .inl (.inr (by rw[←Ve (col:=col) (k:=k) hj];exact h))
 exact .inr (by omega)
theorem bK.Gc {P:Program} {R:Hp→List AC→α→Prop} (hR:FrR R) (hl:LtR R) {H8 H:Hp} {t e:TypeId} {sz by_:Nat} {z:Value} {X:Nat→Prop} {col:Nat→Nat} {k:Nat} {v:AC} {l:List α} {r:Option Nat} (he:ba P t=some (e,sz)) (hb:bW P e=some by_) (hz:ax P e=some z) (X0:(ofValue z).cells.length=sz) (J1:sz≠0)
  (ho:bK R sz e (sx X col k) H8 v l r) (g:Gr H8 H) (hX:∀ i,X i→i<H.nx) {c0:List AC} {x:α} (X5:c0.length=sz) (hx:R H c0 x) (hi:∀ id∈ju c0,H8.nx≤id∧¬X id) (hL:l.length+1≤140737488355328∧(l.length+1)*by_≤140737488355328):
  ltV (.one v) (H.new (.arr c0 e 0 0)).nx∧∃ v' H' r',aL P (H.new (.arr c0 e 0 0)) t (.one v) (.one (.o (.sl H.nx 0 0 1 sz)))=.val (.one v') H' ∧
   bK R sz e (sx X (OQ H8.nx col k) k) H' v' (l++[x]) (some r')∧Fr (fun i=>¬X i) H H'∧(∀ i,H.nx≤i→X i→False) ∧
   ∀ k2,k2≠k→∀ {β:Type} {R2:Hp→List AC→β→Prop} (_:FrR R2) (_:LtR R2) {sz2:Nat} {e2:TypeId} {v2:AC} {l2:List β} {r2:Option Nat},bK R2 sz2 e2 (sx X col k2) H8 v2 l2 r2→bK R2 sz2 e2 (sx X (OQ H8.nx col k) k2) H' v2 l2 r2:=by
 have ho1:bK R sz e (sx X (OQ H8.nx col k) k) H8 v l r:=bK.DD hl ho fun i h=>Qx h;have hg:=g.nx;obtain ⟨D0,v',H',r',U1,U2,hf,hr⟩:=(ho1.gr hR hl g).push hR hl he hb hz X0 J1 (fun i h=>by
  rcases h with h|h
  ·exact hX i h
  ·by_cases hj:i<H8.nx
   ·omega
   exact absurd (Lc (by omega)) h) X5 hx (fun id hid=>by
  obtain ⟨h1,h2⟩:=hi id hid;refine ⟨fun h=>?_,fun e=>?_⟩
  ·rcases h with h|h
   ·exact h2 h
   exact h (Lc h1)
  have:=(ho.row id e.symm).2;omega) hL
 refine ⟨D0,v',H',r',U1,U2,hf.mono fun i e h=>(ho.row i e).1 (.inl h),fun i h1 h2=>by have:=hX i h2;omega,fun k2 hk β R2 hR2 Y' sz2 e2 v2 l2 r2 h2=>?_⟩;refine ((bK.DD Y' h2 fun i h=>Qx h).gr hR2 Y' g).fr hR2 Y' hf fun i e=>.inl (.inr fun h3=>?_);have h4:=(ho1.row i e).1;exact h4 (.inr fun h5=>hk (h3.symm.trans h5))
end
structure dQ (X:Nat→Prop) (H:Hp) (cl:List Cl) (rl:List Rl) (el:List Int) (cv rv ev:AC):Prop where
 own:∃ col r1 r2 r3,bK ClR 5 84 (sx X col 0) H cv cl r1∧bK RlR 2 86 (sx X col 1) H rv rl r2∧bK GS 1 3 (sx X col 2) H ev el r3
section
variable {X X' Y:Nat→Prop} {H H8 H':Hp} {cl:List Cl} {rl:List Rl} {el:List Int} {cv rv ev:AC}
theorem dQ.nil:dQ X H [] [] [] (.o .nilS) (.o .nilS) (.o .nilS):=⟨fun _=>0,none,none,none,bK.nil,bK.nil,bK.nil⟩
theorem dQ.c (h:dQ X H cl rl el cv rv ev):jb H cv cl:=let ⟨_,_,_,_,h1,_,_⟩:=h.own;h1.slr
theorem dQ.r (h:dQ X H cl rl el cv rv ev):jt H rv rl:=let ⟨_,_,_,_,_,h1,_⟩:=h.own;h1.slr
theorem dQ.e (h:dQ X H cl rl el cv rv ev):SlI H ev el:=let ⟨_,_,_,_,_,_,h1⟩:=h.own;bK.sli h1
theorem dQ.fr (h:dQ X H cl rl el cv rv ev) (hf:Fr Y H H') (hy:∀ i,Y i→X i∨H.nx≤i):dQ X H' cl rl el cv rv ev:=by
 obtain ⟨col,r1,r2,r3,h1,h2,h3⟩:=h.own;have hy:∀ (k i:Nat),Y i→sx X col k i∨H.nx≤i:=fun k i h=>(hy i h).elim (fun h=>.inl (.inl h)) .inr;exact ⟨col,r1,r2,r3,h1.fr jR iQ hf (hy 0),h2.fr mL kU hf (hy 1),h3.fr uf ru hf (hy 2)⟩
theorem dQ.gr (h:dQ X H cl rl el cv rv ev) (hf:Gr H H'):dQ X H' cl rl el cv rv ev:=h.fr hf fun _ h=>h.elim
theorem dQ.less (h:dQ X H cl rl el cv rv ev) (hx:∀ i,X' i→X i∨H.nx≤i):dQ X' H cl rl el cv rv ev:=by
 obtain ⟨col,r1,r2,r3,h1,h2,h3⟩:=h.own;have hy:∀ (k i:Nat),sx X' col k i→sx X col k i∨H.nx≤i:=fun k i h=>h.elim (fun h=>(hx i h).elim (fun h=>.inl (.inl h)) .inr) fun h=>.inl (.inr h);exact ⟨col,r1,r2,r3,bK.DD iQ h1 (hy 0),bK.DD kU h2 (hy 1),bK.DD ru h3 (hy 2)⟩
theorem dQ.Gc (h:dQ X H8 cl rl el cv rv ev) (g:Gr H8 H) (hX:∀ i,X i→i<H.nx) {c0:List AC} {x:Cl} (X5:c0.length=5) (hx:ClR H c0 x) (hi:∀ id∈ju c0,H8.nx≤id∧¬X id) (hL:cl.length≤64):
  ltV (.one cv) (H.new (.arr c0 84 0 0)).nx∧∃ v' H',aL Tryz.prog (H.new (.arr c0 84 0 0)) 34 (.one cv) (.one (.o (.sl H.nx 0 0 1 5)))=.val (.one v') H'∧dQ X H' (cl++[x]) rl el v' rv ev∧Fr (fun i=>¬X i) H H':=by
 obtain ⟨col,r1,r2,r3,h1,h2,h3⟩:=h.own;obtain ⟨z,hz,X0⟩:=Md;obtain ⟨D0,v',H',r',U1,ho,hf,_,hk⟩:=bK.Gc jR iQ mZ Nw hz X0 (by decide) h1 g hX X5 hx hi (by omega);exact ⟨D0,v',H',U1,⟨_,_,_,_,ho,hk 1 (by decide) mL kU h2,hk 2 (by decide) uf ru h3⟩,hf⟩
theorem dQ.YI (h:dQ X H8 cl rl el cv rv ev) (g:Gr H8 H) (hX:∀ i,X i→i<H.nx) {c0:List AC} {x:Rl} (X5:c0.length=2) (hx:RlR H c0 x) (hi:∀ id∈ju c0,H8.nx≤id∧¬X id) (hL:rl.length≤64):
  ltV (.one rv) (H.new (.arr c0 86 0 0)).nx∧∃ v' H',aL Tryz.prog (H.new (.arr c0 86 0 0)) 35 (.one rv) (.one (.o (.sl H.nx 0 0 1 2)))=.val (.one v') H'∧dQ X H' cl (rl++[x]) el cv v' ev∧Fr (fun i=>¬X i) H H':=by
 obtain ⟨col,r1,r2,r3,h1,h2,h3⟩:=h.own;obtain ⟨z,hz,X0⟩:=Nn;obtain ⟨D0,v',H',r',U1,ho,hf,_,hk⟩:=bK.Gc mL kU lZ Lp hz X0 (by decide) h2 g hX X5 hx hi (by omega);exact ⟨D0,v',H',U1,⟨_,_,_,_,hk 0 (by decide) jR iQ h1,ho,hk 2 (by decide) uf ru h3⟩,hf⟩
theorem dQ.XZ (h:dQ X H8 cl rl el cv rv ev) (g:Gr H8 H) (hX:∀ i,X i→i<H.nx) {x:Int} (hL:el.length≤64):
  ltV (.one ev) (H.new (.arr [.i .i64 x] 3 0 0)).nx∧∃ v' H',aL Tryz.prog (H.new (.arr [.i .i64 x] 3 0 0)) 57 (.one ev) (.one (.o (.sl H.nx 0 0 1 1)))=.val (.one v') H'∧dQ X H' cl rl (el++[x]) cv rv v'∧Fr (fun i=>¬X i) H H':=by
 obtain ⟨col,r1,r2,r3,h1,h2,h3⟩:=h.own;obtain ⟨z,hz,X0⟩:=xm;obtain ⟨D0,v',H',r',U1,ho,hf,_,hk⟩:=bK.Gc (R:=GS) uf ru fv sA hz X0 (by decide) h3 g hX (c0:=[.i .i64 x]) (x:=x) rfl rfl (fun id hid=>by cases hid) (by omega);exact ⟨D0,v',H',U1,⟨_,_,_,_,hk 0 (by decide) jR iQ h1,hk 1 (by decide) mL kU h2,ho⟩,hf⟩
end
def isP (g:Gd) (kl:List (Cl×Int)) (fr:Nat) (n:Int):Bool:=decide ((fr:Int) - 1<n)&&dD g (((kl[n.toNat]?).map fun x=>x.1.2.1).getD [])
theorem th (g:Gd) (fr:Nat):∀ (pre l:List (Cl×Int)),(bu pre.length l).filter (isP g (pre++l) fr)=bR g fr pre.length l
 | _,[]=>rfl
 | pre,x::l=>by
  have ih:=th g fr (pre++[x]) l;rw[List.length_append,List.append_assoc] at ih;have ih:(bu (pre.length+1) l).filter (isP g (pre++x::l) fr)=bR g fr (pre.length+1) l:=ih;have hx:isP g (pre++x::l) fr (pre.length:Int)=(decide (fr≤pre.length)&&dD g x.1.2.1):=by
   unfold isP;rw[Int.toNat_natCast,List.getElem?_append_right (zA1 _),Nat.sub_self];congr 1
   exact decide_eq_decide.2 (by omega)
  show (if x.2=1 then (pre.length:Int)::bu (pre.length+1) l else bu (pre.length+1) l).filter _=(if fr≤pre.length∧x.2=1∧dD g x.1.2.1=true then (pre.length:Int)::bR g fr (pre.length+1) l else bR g fr (pre.length+1) l);by_cases h1:x.2=1
  ·rw[zB0 h1,List.filter_cons,hx,ih];exact ite_congr (propext (by simp[h1])) (fun _=>rfl) (fun _=>rfl)
  rw[zB1 h1,zB1 (fun h=>h1 h.2.1),ih]
theorem sj:∀ (k:Nat) (l:List (Cl×Int)) (n:Int),n∈bu k l→∃ (m:Nat) (x:Cl×Int),n=((k+m:Nat):Int)∧l[m]?=some x
 | _,[],_,h=>by cases h
 | k,x::l,n,h=>by
  have h:n∈(if x.2=1 then (k:Int)::bu (k+1) l else bu (k+1) l):=h;have go:n∈bu (k+1) l→∃ (m:Nat) (y:Cl×Int),n=((k+m:Nat):Int)∧(x::l)[m]?=some y:=fun h=>by
   obtain ⟨m,y,h1,h2⟩:=sj (k+1) l n h;exact ⟨m+1,y,by rw[h1];congr 1;omega,h2⟩
  split at h
  ·rcases List.mem_cons.1 h with h|h
   ·exact ⟨0,x,h,rfl⟩
   exact go h
  exact go h
theorem sw:∀ (k:Nat) (l:List (Cl×Int)),(bu k l).length≤l.length
 | _,[]=>zA1 _
 | k,x::l=>by
  have:=sw (k+1) l;show (if x.2=1 then (k:Int)::bu (k+1) l else bu (k+1) l).length≤l.length+1;split
  ·rw[List.length_cons];omega
  omega
abbrev kvT:List UInt8×Int→AV:=fun x=>.agg [.o (.str x.1),.i .i64 x.2]
theorem Wo:QJ Tryz.prog 152 kvT:=Xe JI Qd fun _ _ _=>by kernel_rfl
def vl (l:List ((List UInt8×Int)×AC)) (kl:List (Cl×Int)):Prop:=∀ key:List UInt8×Int,key.2≠1→atG l key=if dq key 0 0 kl=0 then none else some (.i .i64 ((dq key 0 0 kl:Nat) - 1:Int))
theorem vl.nil:vl [] []:=fun _ _=>rfl
theorem vl.entry {l:List ((List UInt8×Int)×AC)} {kl:List (Cl×Int)} (h:vl l kl) {x:Cl×Int} (hx:x.2=1):vl l (kl++[x]):=fun key hk=>by
 have e:dq key 0 0 (kl++[x])=dq key 0 0 kl:=by rw[kH,zB1 (fun h=>hk (h.2.symm.trans hx))]
 rw[e];exact h key hk
theorem vl.total {l:List ((List UInt8×Int)×AC)} {kl:List (Cl×Int)} (h:vl l kl) (x:Cl×Int):vl (hT l (x.1.2.1,x.2) (.i .i64 (kl.length:Int))) (kl++[x]):=fun key hk=>by
 rw[Kw];by_cases hh:x.1.2.1=key.1∧x.2=key.2
 ·have e:(x.1.2.1,x.2)=key:=by rw[hh.1,hh.2]
  have e2:dq key 0 0 (kl++[x])=kl.length+1:=by rw[kH,zB0 hh,Nat.zero_add]
  rw[zB0 e,e2,zB1 (by omega)];congr 2;omega
 have e:¬(x.1.2.1,x.2)=key:=fun e=>hh ⟨by rw[←e],by rw[←e]⟩;have e2:dq key 0 0 (kl++[x])=dq key 0 0 kl:=by rw[kH,zB1 hh]
 rw[zB1 e,e2];exact h key hk
end Go.Proofs.YtnhbkodnmkojpaaGreat
end

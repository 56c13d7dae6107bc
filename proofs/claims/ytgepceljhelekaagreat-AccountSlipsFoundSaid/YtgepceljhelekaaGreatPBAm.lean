/- A part of the proof: BkFd4, BkCostsEnd, BkFdEnd, BkFdHold. No conditions. -/
import Derived.Test.YtgepceljhelekaaGreatPBAl
import Derived.OpenShut
set_option maxRecDepth 100000
set_option maxHeartbeats 64000000
set_option linter.all false
open Go.Proofs.Tryz (prog)
namespace Go.Proofs.YtgepceljhelekaaGreat
open Go Go.Eng
def tyE:=zDi tyC tyS Nw Nb Ta Sc @NV bR
def JZ{ld:List Lad}{w v:List Int}{c:Nat}{x:Sp}(hs:pM ld w v)(hc:c<w.length)(hx:x∈Kd ld w c):pM ld w (v.set c x.2.2):=by
 refine⟨by rw[fq];exact hs.1,λj hj=>?_⟩;by_cases h:c=j
 ·subst h;refine .inr ⟨x,hx,?_⟩;rw[bt,List.getElem?_set_self (by rw[hs.1];exact hc)];rfl
 have e:(v.set c x.2.2).getD j 0=v.getD j 0:=by rw[bt,sJ h,<-bt]
 rw[e];exact hs.2 j hj
def PN(w:List Int):Fb w w=0:=by unfold Fb;rw[List.length_eq_zero_iff,GA];intro i _;simp
def Rs{o:Option (List Lad)}{p:Pz}{v:List Int}(h:(fk o p v).2=0):fO o p v=0:=by
 unfold fk at h;by_cases c:fO o p v=0
 ·exact c
 rw[ad c]at h;exact h
def Two(zs:List AC)(i:Nat)(x y:Int):Prop:=(zs.drop (i*2)).headD (.b false)=.i .i64 x/\(zs.drop (i*2+1)).headD (.b false)=.i .i64 y/\i*2+1<=zs.length/\i*2+1+1<=zs.length
def Im(H:Hp)(u a b w:AC)(z0 z1 z2 z3 z4 z5:Int)(ls:List Lad)(p:Pz)(v:List Int)(hl:gH H u ls)(ha:fJ H a p.1)(hb:fu H b p.2)(hB:PzB p)(hw:SlI H w v)(hV:v.length*8<=140737488355328):
  C1 E2 4 [.agg [u,a,b,w],.agg [.i .i64 z0,.i .i64 z1,.i .i64 z2,.i .i64 z3,.i .i64 z4,.i .i64 z5]] H λr _=>r=.one (.b true):=by
 refine C1.fK 161 [.tmp 4] Tryz.func4 λtm h0 h1=>?_;have hu0:=hl.lt;have ha0:=ha.lt;have hb0:=hb.lt;have hw0:=hw.lt;refine zG tyE λK hK=>?_;apply hK.out;refine R1.gen (λA1 H1=>Gr H H1/\H.nx+1<H1.nx/\H1.get H.nx=some (.arr [u,a,b,w] 29 0 0)/\H1.get (H.nx+1)=some (.arr [.i .i64 z0,.i .i64 z1,.i .i64 z2,.i .i64 z3,.i .i64 z4,.i .i64 z5] 46 0 0)/\kO A1 2 3 (.o (.ptr H.nx 0 0 4)) (.o (.ptr (H.nx+1) 0 0 6)) 161 [])
  ⟨((Fr.refl _).new _).new _,aZ _,(bu (by show H.nx<H.nx+1;omega)).trans (aJ rfl),aJ rfl,zL⟩ ?_
 rintro A1 H1 ⟨g1,n1,rx,ry,t2,t3,A0,B0⟩;clear h0 h1 tm hK K hu0 ha0 hb0 hw0;obtain⟨N,hN⟩:=dZ H.nx;obtain⟨M,hM⟩:∃M,M=H.nx+1:=⟨_,rfl⟩;rw[<-hM]at n1 ry t3;rw[<-hN]at rx t2;have m1:N<H1.nx:=aa;clear hN hM;have hz:∀i,i<3->∃x y,Two [.i .i64 z0,.i .i64 z1,.i .i64 z2,.i .i64 z3,.i .i64 z4,.i .i64 z5] i x y:=λi hi=>by
  rcases(by omega:i=0\/i=1\/i=2)with rfl|rfl|rfl
  ·exact⟨z0,z1,rfl,rfl,aY rfl,aY rfl⟩
  ·exact⟨z2,z3,rfl,rfl,aY rfl,aY rfl⟩
  exact⟨z4,z5,rfl,rfl,aY rfl,aY rfl⟩
 generalize[AC.i .i64 z0,.i .i64 z1,.i .i64 z2,.i .i64 z3,.i .i64 z4,.i .i64 z5]=zs at ry hz
 replace hz:=hd hz;have hl:=hl.gr g1;have ha:=ha.gr g1;have hb:=hb.gr g1;have hw:=hw.gr g1;refine zG (qA tyE Sh) λK hK=>?_;refine WE.con (PF H1 u ls hl) λw' H2 g2⟨p1,p2,hq,hp,hr,M4⟩=>?_;subst hq;obtain⟨rx,m1⟩:=bq g2 m1 rx;obtain⟨ry,n1⟩:=bq g2 n1 ry;have ha:=ha.gr g2;have hb:=hb.gr g2;have hw:=hw.gr g2;clear M4 hl hr;have G5:∀l,bkO ls=some l->∀x∈l,x.2.length<=1000000:=λl h x hx=>by have:=(Zk h).2 x hx;omega
 have N0:∀l,bkO ls=some l->∀x∈l,aR x.1 x.2=0:=λl h=>Wu h;generalize bkO ls=o at hp G5 N0;replace G5:=ah G5;replace N0:=ah N0;have hVV:v.length<=4611686018427387904:=aa;refine zK tyE ?_;refine zG (qA tyE Sw) λK hK=>?_;refine WE.con (Rt H2 p1 a b w o p v hp G5.out ha hb hB hw hVV) λw' H3 g3⟨c,hq,hc⟩=>?_;subst hq;obtain⟨rx,m1⟩:=bq g3 m1 rx;obtain⟨ry,n1⟩:=bq g3 n1 ry;have ha:=ha.gr g3;have hb:=hb.gr g3;have hw:=hw.gr g3;have hp:=hp.gr g3;have l1:=hc.len;have l2:=hc.lt;have l3:=hw.len;have l4:=hw.lt;clear hc;by_cases he:(fk o p v).2=0
 case neg=>have ce:((fk o p v).2==0)=false:=aW he;replace he:=hd he;refine zK (qA tyE jC) ?_;refine zG (qA tyE jC) λK hK=>?_;refine WE.eu yS λHb gb _ _=>?_;refine zK tyE ?_;exact⟨_,_,au (.b true) (.inr rfl) qe qp,rfl⟩
 have ce:=beq_iff_eq.2 he;by_cases hwl:(fk o p v).1=[]
 case neg=>
  have c1:(0:Int)<(((fk o p v).1.length:Nat):Int):=by have:=List.length_pos_iff.2 hwl;omega
  replace he:=hd he;replace hwl:=hd hwl;refine zK (qA tyE jC) ?_;refine zG (qA tyE jC) λK hK=>?_;refine WE.eu yS λHb gb _ _=>?_;refine zK tyE ?_;exact⟨_,_,au (.b true) (.inr rfl) qe qp,rfl⟩
 have c1:¬(0:Int)<(((fk o p v).1.length:Nat):Int):=by rw[hwl];decide
 by_cases hv0:v.length=0
 ·have c2:(((v.length:Nat):Int)==0)=true:=by rw[hv0];rfl
  replace he:=hd he;replace hwl:=hd hwl;replace hv0:=hd hv0;refine zK (qA tyE jC) ?_;refine zG (qA tyE jC) λK hK=>?_;refine WE.eu yS λHb gb _ _=>?_;refine zK tyE ?_;exact⟨_,_,au (.b true) (.inr rfl) qe qp,rfl⟩
 have c2:(((v.length:Nat):Int)==0)=false:=aW aa;have hask:=Rs he;obtain⟨hC,hR,U1,hcp,_⟩:=ou hask;obtain⟨lb,rfl,_,_,hgo,_⟩:=pU hcp;obtain⟨kb,rfl,hkb⟩:∃kb,p1=.o (.ptr kb 0 0 4)/\kb<H3.nx:=by obtain⟨kb,m,lad,gr,fc,h1,h2,_⟩:=hp;exact⟨kb,h1,h2⟩
 have N0:=N0.out lb rfl;have G5:=G5.out lb rfl;have G0:=mA hask N0;have hlad:=uW hgo;clear hcp hgo hR;replace N0:=hd N0;replace G5:=hd G5;replace G0:=hd G0;replace hlad:=hd hlad;replace hask:=hd hask;replace he:=hd he;replace hwl:=hd hwl;replace hv0:=hd hv0;replace U1:=hd U1;refine zK (qA tyE @pZ) ?_;clear c1 c2 ce l1 l2 l3 l4;refine zG (qA tyE Ht) λK hK=>?_;refine WE.con (PK H3 w v hw hV) λw' H4 g4⟨c2,q,hq,o8,b6⟩=>?_;subst hq;have rx4:=(g4.get _ m1 aF).trans rx;have W0:=o8.lt;refine zK tyE ?_;refine R1.ed λK1 k1 k2 k3 k4=>?_;refine R1.loop (λz A H5=>∃(i m:Nat)(vv:List Int),z=3-i/\i<=3/\m<=i/\Gr H3 H5/\Hd (Ez H5 c2 vv q)/\Hd (pM (ldC lb p.1) v vv/\Fb vv v<=m)/\wy A.tm 2 3 5 9 (.o (.ptr N 0 0 4)) (.o (.ptr M 0 0 6)) (.o (.ptr kb 0 0 4)) (c2) (jc A m i (A.nt=161/\A.dfr=[]))) ?_ 3
  ⟨0,0,v,rfl,Nat.zero_le _,ai _,g4,hd o8,hd ⟨⟨rfl,λ_ _=>.inl rfl⟩,by rw[PN];exact ai _⟩,zL⟩
 clear t2 t3 A0 B0 A1 k3 W0 o8 rx4;rintro z A H5 ⟨i,m,vv,rfl,hi,hm,g5,hc5,W7,t2,t3,t5,t9,t10,t11,A0,B0⟩;refine zW tyE ?_;refine zI tyE (λhc=>?_) (λhc=>?_)
 ·have hi3:i<3:=aa;obtain⟨x,y,ex,ey,lx,ly⟩:=hz.out i hi3;have a8:vv.length=v.length:=W7.out.1.1;have hvp:0<vv.length:=by have:=hv0.out;omega
  have hvb:(vv.length:Int)<=4611686018427387904:=aa;replace a8:=hd a8;rcases hc5.out with⟨_,h0,_⟩|⟨rid,lo,gen,hqe,rfl,rr,Y1,N4,X6⟩
  ·omega
  clear hc5 N4;have hrH:=b6 rid hqe;replace hqe:=hd hqe;obtain⟨rx,m1⟩:=bq g5 m1 rx;obtain⟨ry,n1⟩:=bq g5 n1 ry;have ha:=ha.gr g5;have hw:=hw.gr g5;have hp:=hp.gr g5;have e1:∀H:Hp,fh H 3 2 (.one (.o (.ptr M 0 0 6))) (.one (.i .i64 (i:Int)))=.val (.one (.o (.ptr M 0 (i*2) 2))) H:=λH=>by have h:=qz (H:=H) (id:=M) (g:=0) (off:=0) (len:=6) (sz:=2) hi3 aa;rwa [Nat.zero_add]at h
  have e2:∀H:Hp,fh H 2 1 (.one (.o (.ptr M 0 (i*2) 2))) (.one (.i .i64 0))=.val (.one (.o (.ptr M 0 (i*2) 1))) H:=λH=>qz (H:=H) (id:=M) (g:=0) (off:=i*2) (len:=2) (sz:=1) (i:=0) aa aa;have e3:∀H:Hp,fh H 2 1 (.one (.o (.ptr M 0 (i*2) 2))) (.one (.i .i64 1))=.val (.one (.o (.ptr M 0 (i*2+1) 1))) H:=λH=>qz (H:=H) (id:=M) (g:=0) (off:=i*2) (len:=2) (sz:=1) (i:=1) aa aa;have Z7:=bw i;have hwm:=bw m;refine zW tyE ?_;refine R1.ed λK2 q1 q2 q3 q4=>?_;refine zG (zDe tyE e1 e2 Hq) λK hK=>?_;refine WE.con (Cw H5 x vv.length hvb) λw' H6 g6 hq=>?_;subst hq;obtain⟨b0,b1⟩:=HE (n:=x) (m:=(vv.length:Int)) aa;generalize pS x (vv.length:Int)=cell at b0 b1 |-;obtain⟨c,rfl⟩:=ze b0;have Y6:c<vv.length:=aa;have hcw:c<v.length:=by have:=a8.out;omega
  clear b0 b1;obtain⟨rx,m1⟩:=bq g6 m1 rx;obtain⟨ry,n1⟩:=bq g6 n1 ry;obtain⟨rr,X6⟩:=bq g6 X6 rr;have ha:=ha.gr g6;have hw:=hw.gr g6;have hp:=hp.gr g6;have gA:=g5.gr g6;clear g6 g5;obtain⟨nv,hnv⟩:∃n,vv[c]?=some n:=⟨_,aO Y6⟩;obtain⟨nw,hnw⟩:∃n,v[c]?=some n:=⟨_,aO hcw⟩;obtain⟨idw,gw,offw,cw,rfl,hidw,hgw,j5,hw4,_⟩:=hw.at hnw;rw[bR]at j5 hw4;have hv3:((vv.map (AC.i .i64)).drop c).headD (.b false)=.i .i64 nv:=by rw[List.headD_eq_head?_getD,List.head?_drop,pf,hnv];rfl
  have hv4:c+1<=(vv.map (AC.i .i64)).length:=by rw[cT];exact Y6
  by_cases I1:nv=nw
  case neg=>have cn:(nv==nw)=false:=aW I1;replace hnv:=hd hnv;replace hnw:=hd hnw;refine zK (zDd tyE (ixC Y6) (ixC hcw)) ?_;apply q2.out;refine zW tyE ?_;exact⟨3-(i+1),aa,i+1,m,vv,rfl,hi3,aa,gA,hd (.inr ⟨rid,lo,gen,hqe.out,rfl,rr,Y1,by rw[cT,bR],X6⟩),W7,zL⟩
  subst I1;have cn:(nv==nv)=true:=fl _;have hcp:c<p.1.length:=by have:=U1.out;omega
  obtain⟨yc,hyc⟩:∃n,p.1[c]?=some n:=⟨_,aO hcp⟩;obtain⟨idc,gc,oc,cc,rfl,hidc,hgrc,hatc⟩:=ha.open aa;obtain⟨pp,qq,hx⟩:=hatc c yc hyc;have y1:=hx.f3;have y2:=hx.le3;have hle:=hlad.out yc (iY hyc);have hld:(ldC lb p.1).getD c ([],[])=ca (some lb) yc.2.2.1:=by unfold ldC;rw[bt,pf,hyc];rfl
  have hvD:v.getD c 0=nv:=by rw[bt,hnw];rfl
  obtain⟨W0,hrg1,hrg2⟩:=G0.out.lad (i:=(c:Int)) aa aa;rw[rR,hld]at W0;rw[rR,hvD]at hrg1 hrg2;have hslp:rF (ca (some lb) yc.2.2.1).1 (ca (some lb) yc.2.2.1).2 nv=0:=by unfold rF;rw[ab (λh=>h W0),ab aa]
  have I0:∀s∈dI (ca (some lb) yc.2.2.1).2 (aC (ca (some lb) yc.2.2.1).2 nv) (dG (ca (some lb) yc.2.2.1).1 (ca (some lb) yc.2.2.1).2) nv,s∈Kd (ldC lb p.1) v c:=λs hs=>by unfold Kd;rw[hld,hvD];exact hs
  clear hatc hx W0 hrg1 hrg2 hvD hld;replace hyc:=hd hyc;replace hnv:=hd hnv;replace hnw:=hd hnw;replace I0:=hd I0;replace hle:=hd hle;replace hslp:=hd hslp;refine zK (zDd tyE (ixC Y6) (ixC hcw)) ?_;refine zG (zDd tyE (ixC hcp) nj) λK5 U0=>?_;refine WE.con (lC H6 (.o (.ptr kb 0 0 4)) (some lb) yc.2.2.1 hp (λls' h=>by cases h;exact G5.out)) λw' H7 g7⟨cx,Q2,hla,W0⟩=>?_;subst Q2;rw[hle.out];obtain⟨uu,rfl,hu⟩:=hla.of;clear W0 hla;have lu:=hu.lt;refine zS tyE ?_;apply U0.out;refine R1.gen (λA5 H8=>Gr H7 H8/\H7.nx<H8.nx/\H8.get H7.nx=some (.arr [.o (.str (ca (some lb) yc.2.2.1).1),uu] 51 0 0)/\wy A5.tm 2 3 5 9 (.o (.ptr N 0 0 4)) (.o (.ptr M 0 0 6)) (.o (.ptr kb 0 0 4)) (.o (.sl rid gen 0 vv.length 1)) (jc A5 m i (mX A5 c (kO A5 13 14 (.o (.ptr H7.nx 0 0 2)) (.i .i64 (0:Int)) 161 []))))
   ⟨((Fr.refl _).new _).mod _ (.inl (ai _)),aZ _,ao rfl,zL⟩ ?_
  clear t2 t3 t5 t9 t10 t11 A0 B0 A U0 K5 lu y1 y2 hgrc hidc j5 hw4 hgw hidw;rintro A H8 ⟨g8,n8,rl,t2,t3,t5,t9,t10,t11,t12,t13,t14,A0,B0⟩;obtain⟨L,hL⟩:=dZ H7.nx;rw[<-hL]at n8 rl t13;clear hL;have g68:=g7.gr g8;obtain⟨rx,m1⟩:=bq g68 m1 rx;obtain⟨ry,n1⟩:=bq g68 n1 ry;obtain⟨rr,X6⟩:=bq g68 X6 rr;have hu8:=hu.gr g8;have gB:=gA.gr g68;clear g7 g8 g68 gA hu;refine zG (zDd tyE (ixC Y6) PA) λK hK=>?_;refine WE.con (Ml H8 (ca (some lb) yc.2.2.1).1 uu (ca (some lb) yc.2.2.1).2 nv hu8) λw' H9 g9⟨c3,out,hq,V7,_,hgood⟩=>?_;subst hq;obtain⟨_,_,_,hpe,_,hol⟩:=hgood hslp.out;rw[hslp.out];clear hgood;obtain⟨rx,m1⟩:=bq g9 m1 rx;obtain⟨ry,n1⟩:=bq g9 n1 ry;obtain⟨rr,X6⟩:=bq g9 X6 rr;have gC:=gB.gr g9;have l1:=V7.len;have l2:=V7.lt;replace hpe:=hd hpe;clear g9 gB hu8 hv3;have done:∀A:ag,(wy A.tm 2 3 5 9 (.o (.ptr N 0 0 4)) (.o (.ptr M 0 0 6)) (.o (.ptr kb 0 0 4)) (.o (.sl rid gen 0 vv.length 1)) (jc A m i (A.nt=161/\A.dfr=[])))->K2 .normal A H9:=by rintro A ⟨t2,t3,t5,t9,t10,t11,A0,B0⟩;apply q1.out;refine zW tyE ?_;exact⟨3-(i+1),aa,i+1,m,vv,rfl,hi3,aa,gC,hd (.inr ⟨rid,lo,gen,hqe.out,rfl,rr,Y1,by rw[cT,bR],X6⟩),W7,zL⟩
  replace done:=hd done;refine zK tyE ?_;by_cases ho:out.length=0
  ·have d0:¬(0:Int)<((out.length:Nat):Int):=aa;replace ho:=hd ho;refine zW tyE ?_;exact done.out _ zL
  have d0:(0:Int)<((out.length:Nat):Int):=aa;by_cases hy:y=0
  ·have d1:=beq_iff_eq.2 hy;replace ho:=hd ho;replace hy:=hd hy;refine zW (zDd tyE e1 e3) ?_;exact done.out _ zL
  have d1:(y==0)=false:=aW hy;replace hy:=hd hy;replace ho:=hd ho;clear done;refine zW (zDd tyE e1 e3) ?_;refine zG (zDe tyE e1 e3 Hq) λK hK=>?_;refine WE.con (Cw H9 y out.length aa) λw' H10 g10 hq=>?_;subst hq;obtain⟨b0,b1⟩:=HE (n:=y) (m:=(out.length:Int)) (by have:=ho.out;omega);generalize pS y (out.length:Int)=jj at b0 b1 |-;obtain⟨j,rfl⟩:=ze b0;have hj:j<out.length:=aa;clear b0 b1 l1 l2;obtain⟨rx,m1⟩:=bq g10 m1 rx;obtain⟨ry,n1⟩:=bq g10 n1 ry;obtain⟨rr,X6⟩:=bq g10 X6 rr;have gD:=gC.gr g10;obtain⟨s,hs⟩:∃n,out[j]?=some n:=⟨_,aO hj⟩;obtain⟨id3,g3',off3,c3',rfl,hid3,hgr3,hat3⟩:=(V7.gr g10).open aa;have hsx:=hat3 j s hs;have X1:s∈Kd (ldC lb p.1) v c:=I0.out s (hpe.out.mem_iff.1 (iY hs));obtain⟨s1,s2,s3⟩:=s;have f2:(c3'.drop (off3+j*3+2)).headD (.b false)=.i .i64 s3:=hsx.f2;have f3:=hsx.le3;have R6:=aa3 (acc:=vv) (a:=s3) (x:=(c:Int)) aa aa;rw[rR]at R6;replace hs:=hd hs;replace X1:=hd X1;clear hat3 hsx gC g10 d0 d1 V7;refine zK (zDf tyE (ixC hj) (ixC Y6) R6 hv4) ?_;apply q1.out;refine zW tyE ?_;exact⟨3-(i+1),aa,i+1,m+1,vv.set c s3,rfl,hi3,aa,gD.mod _ (.inl hrH),
   hd (.inr ⟨rid,gen,gen,hqe.out,by rw[fq],ao rfl,ai _,by rw[cT,bR],X6⟩),
   hd ⟨JZ W7.out.1 hcw X1.out,aD (SV vv v s3 Y6) (Nat.succ_le_succ W7.out.2)⟩,zL⟩
 have hi3:i=3:=aa;subst hi3;refine zW tyE ?_;apply k2.out;have a8:vv.length<=4611686018427387904:=by rw[W7.out.1.1];exact hVV
 have hc:=hc5.out.slI;obtain⟨rx,m1⟩:=bq g5 m1 rx;obtain⟨ry,n1⟩:=bq g5 n1 ry;have ha:=ha.gr g5;have hb:=hb.gr g5;have hp:=hp.gr g5;clear hc5;replace W7:=hd W7.out;refine zG (qA tyE Px) λK hK=>?_;refine WE.con (LZ H5 (.o (.ptr kb 0 0 4)) a b c2 (some lb) p vv 3 hp (λls' h=>by cases h;exact G5.out) (λls' h=>by cases h;exact N0.out) ha hb hB hc a8) λw' H6 g6⟨c4,e,f,hq,hf,hR⟩=>?_;subst hq;obtain⟨rx,m1⟩:=bq g6 m1 rx;have ha:=ha.gr g6;have hb:=hb.gr g6;have hp:=hp.gr g6;have hc:=hc.gr g6;have hfl:=UZ (λls' h=>by cases h;exact N0.out) hR;obtain⟨e0,k0,k5⟩:=Io hask.out N0.out hwl.out W7.out.1 W7.out.2 hm hR;subst e0;clear hR;replace k0:=hd k0;refine zK tyE ?_;refine zG (qA tyE Wi) λK hK=>?_;refine WE.con (SS H6 (.o (.ptr kb 0 0 4)) a b c2 c4 (some lb) p vv f hp (λls' h=>by cases h;exact G5.out) (λls' h=>by cases h;exact N0.out) ha hb hB hc a8 hf aa) λw' H7 g7 hq=>?_;subst hq;rw[k0.out];refine zK (qA tyE jC) ?_;refine zG (qA tyE jC) λK hK=>?_;refine WE.eu yS λHb gb _ _=>?_;refine zK tyE ?_;exact⟨_,_,au (.b true) (.inr rfl) qe qp,rfl⟩
open Go.ChangeShapes Go.WideShapes Go.ChangeAt Go.RowKit Go.Eng
abbrev SD:=lM NZ (lM vH IE)
def Jg:kU NZ:=sn (fC ib Dz)
def Bb:kU vH:=fC wV Qy
def UC{W:World}(hB:sQ W):Opn prog W 4 SD 29:=fU Tryz.underlying29 ae rfl (eh (UE hB) Jg (eh (LN hB) Bb (jJ (Jw hB))))
def QF{W:World}:GU prog W 4 SD 29:=xO Tryz.underlying29 ae rfl (tP (oQ Tryz.underlying22) Jg (tP Ju Bb (DF (oQ Tryz.underlying27))))
def WA{B:Nat}{H:Hp}{c:List AC}{x:List Lad×Pz×List Int}(hB:B<=140737488355328)(h:SD B H c x):∃u a b w,c=[u,a,b,w]/\gH H u x.1/\fJ H a x.2.1.1/\fu H b x.2.1.2/\PzB x.2.1/\SlI H w x.2.2/\x.2.2.length*8<=B:=by obtain⟨c1,c2,rfl,h1,c3,c4,rfl,h2,h3⟩:=h;obtain⟨u,e,W5⟩:=id h1;subst e;obtain⟨a,b,rfl,k1,k2,k3⟩:=aa4 hB h2;obtain⟨w,rfl,k4,k5⟩:=NX h3;exact⟨u,a,b,w,rfl,(Xf h1).1,k1,k2,k3,k4,k5⟩
def XZ:∀t∈[29,30],prog.readableRec t=true/\t<prog.types.size:=by
 have h1:prog.readableRec 29=true:=ae;have h2:prog.readableRec 30=true:=ae;have k1:decide (29<prog.types.size)=true:=ae;have k2:decide (30<prog.types.size)=true:=ae;intro t ht;simp only[List.mem_cons,List.not_mem_nil,or_false]at ht;rcases ht with rfl|rfl
 ·exact⟨h1,rS k1⟩
 exact⟨h2,rS k2⟩
def Ya:∀t∈[29,46],prog.readableRec t=true/\t<prog.types.size:=by
 have h1:prog.readableRec 46=true:=ae;have k1:decide (46<prog.types.size)=true:=ae;intro t ht;simp only[List.mem_cons,List.not_mem_nil,or_false]at ht;rcases ht with rfl|rfl
 ·exact XZ _ (by simp)
 exact⟨h1,rS k1⟩
def WG:prog.cellsOf 46=6:=ae
def Zu:prog.cellsOf 45=2:=ae
def Zt:prog.cellsOf 3=1:=ae
section
variable{H:Type}{enc:TypeId×Value->H}{W:World}
def Bf{fuel:Nat}{c0 c1:Value}{x:DataW H×List MemPlace}(h:DataW.trod enc prog W 0 (λ_=>true) true fuel 45 [c0,c1]=some x):∃a b,c0=.int .i64 a/\c1=.int .i64 b:=by
 obtain⟨xs,m,_,_,_,hn,hf⟩:=DataW.trod_array Tryz.underlying45 h;rw[Zt]at hf;match xs,hn with
 |[y0,y1],_=>
  have f0:DataW.trod enc prog W 0 (λ_=>true) true m 3 [c0]=some y0:=hf 0 aE;have f1:DataW.trod enc prog W 0 (λ_=>true) true m 3 [c1]=some y1:=hf 1 aE;obtain⟨a,e0,_⟩:=DataW.trod_int Tryz.underlying3 f0;obtain⟨b,e1,_⟩:=DataW.trod_int Tryz.underlying3 f1;cases e0
  cases e1
  exact⟨a,b,rfl,rfl⟩
def QE{v:Value}{d:DataW H}{ps:List MemPlace}(hval:Value.okWide prog W .any 0 46 v)(h:DataW.Trod enc prog W 0 (λ_=>true) true 46 v d ps):
  ∃z0 z1 z2 z3 z4 z5,v=.agg #[.int .i64 z0,.int .i64 z1,.int .i64 z2,.int .i64 z3,.int .i64 z4,.int .i64 z5]:=by
 have hval':∃cs,v=.agg cs/\cs.size=prog.cellsOf 46:=by simp only[Value.okWide,Tryz.underlying46]at hval;obtain⟨cs,h1,h2,_⟩:=hval;exact⟨cs,h1,h2⟩
 obtain⟨⟨cs⟩,rfl,M1⟩:=hval';obtain⟨fuel,h⟩:=h;replace h:DataW.trod enc prog W 0 (λ_=>true) true fuel 46 cs=some (d,ps):=h;replace M1:cs.length=6:=M1.trans WG;match cs,M1 with
 |[c0,c1,c2,c3,c4,c5],_=>
  obtain⟨xs,m,_,_,_,hn,hf⟩:=DataW.trod_array Tryz.underlying46 h;rw[Zu]at hf;match xs,hn with
  |[y0,y1,y2],_=>obtain⟨z0,z1,rfl,rfl⟩:=Bf (x:=y0) (hf 0 aE);obtain⟨z2,z3,rfl,rfl⟩:=Bf (x:=y1) (hf 1 aE);obtain⟨z4,z5,rfl,rfl⟩:=Bf (x:=y2) (hf 2 aE);exact⟨z0,z1,z2,z3,z4,z5,rfl⟩
end
def Fh(os:Os)(started:os.Started)(H:Type)(enc:TypeId×Value->H):
  ReturnsInHanded {} Tryz.checked os 4 .any (Rows.accountSlipsFoundSpec.pre6 enc prog Tryz.f4 Rows.accountSlipsFoundRow.domain false) (Rows.accountSlipsFoundSpec.post enc prog Tryz.f4 false true false false):=by
 refine returnsInHanded_of_change_sized (C:=Tryz.checked) Tryz.own started ae Tryz.func4
  (ChangeSpec.witness6 (enc:=enc) (C:=Tryz.checked) false ⟨#[],#[.agg #[.slice none 0 0,.slice none 0 0,.slice none 0 0,.slice none 0 0],.agg #[.int .i64 0,.int .i64 0,.int .i64 0,.int .i64 0,.int .i64 0,.int .i64 0]],[]⟩ 8 ae ae ae ae) ?_
 intro W base args ds gs before hval0 hW hcnd0 M1 _;clear hcnd0;have hval:∀(j:Nat)t v,Tryz.f4.params[j]?=some t->args[j]?=some v->Value.okWide prog W .any base t v:=hval0;have hW':=hW;obtain⟨p,q,hA0,hV,rfl,hfz,u6⟩:=hW;have hA:DataW.TrodAll enc prog W 0 (λ_=>true) true Tryz.f4.params.toList args.toList ds p:=hA0;rw[Tryz.params4]at hA hval M1;have hAll:=hA;obtain⟨v0,v1,d0,d1,p0,p1,rfl,rfl,rfl,h0,h1⟩:=trodAll_two hA;obtain⟨rfl,rfl⟩:=trodVars_none hV;clear hA0 hval0;simp only[List.append_nil]at hW' hfz;have hw:∀(j:Nat)(t:TypeId)(d:DataW H),[29,46][j]?=some t->[d0,d1][j]?=some d->∀n∈d.weights prog t,n<=reachBytes:=λj t d ht hd n hn=>by have:=List.all_eq_true.1 M1 n (DataW.weights_mem_each (j:=j) (by rw[gR (by have:=(List.getElem?_eq_some_iff.1 ht).1;exact this)];exact ht) (by rw[gR (by have:=(List.getElem?_eq_some_iff.1 hd).1;exact this)];exact hd) n hn);simpa using this
 obtain⟨y0,u0,l0,a0,b0,_,c0⟩:=UG Tryz.underlying29 (λhB=>UC hB) QF (hval 0 _ v0 rfl rfl) h0 (hw 0 _ _ rfl rfl) [] Vf;obtain⟨z0,z1,z2,z3,z4,z5,rfl⟩:=QE (hval 1 _ v1 rfl rfl) h1;obtain⟨u,a,b,w,rfl,e0,e1,e2,e3,e4,e5⟩:=WA JM c0;have F1:=HL (E:=E2) aaK (f:=4) (args:=[.agg [u,a,b,w],.agg [.i .i64 z0,.i .i64 z1,.i .i64 z2,.i .i64 z3,.i .i64 z4,.i .i64 z5]]) (vs:=[v0,.agg #[.int .i64 z0,.int .i64 z1,.int .i64 z2,.int .i64 z3,.int .i64 z4,.int .i64 z5]]) (w:=W) (l:=[]++y0) a0
  ⟨b0,⟨[.int .i64 z0,.int .i64 z1,.int .i64 z2,.int .i64 z3,.int .i64 z4,.int .i64 z5],⟨rfl,rfl,rfl,rfl,rfl,rfl,trivial⟩,rfl⟩,trivial⟩
  (Im _ u a b w z0 z1 z2 z3 z4 z5 l0.1 l0.2.1 l0.2.2 e0 e1 e2 e3 e4 (aD e5 JM))
 refine F1.mono λe W'⟨he,hw⟩=>?_;subst he;have D0:∀x∈p0++p1,x.block<W.heap.size:=λx hx=>hW'.lt x (by simpa using hx);exact⟨_,rfl,TT rfl hW' rfl ae rfl rfl rfl (xE hw) λsp j8=>tj Tryz.laidOut (xE hw) Ya (by simpa using hAll) (by simpa using D0) j8⟩
theorem found_holds:Rows.AccountSlipsFoundSaid:=
 OpenClaim.holds_of_wide 4 Tryz.f4 rfl rfl rfl rfl rfl rfl rfl ⟨rfl,rfl,rfl,rfl,rfl⟩ rfl rfl rfl rfl rfl ae Tryz.func4 ae
  (rS ae) (by unfold Func.isWrapper;first|(rw[ad (by decide +kernel)];kernel_rfl)|(rw[ab (by decide +kernel)];exact⟨rfl,rfl⟩))
  (λos started H enc _=>Fh os started H enc)
end Go.Proofs.YtgepceljhelekaaGreat

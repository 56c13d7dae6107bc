/- A part of the proof. -/
import Derived.Test.YtgepceljhelekaaGreatPBAj
import Derived.Sort.Defs
import Derived.Sort.Lot0
set_option maxRecDepth 100000
set_option maxHeartbeats 64000000
set_option linter.all false
open Go.Proofs.Tryz (prog)
namespace Go.Proofs.YtgepceljhelekaaGreat
open Go Go.Eng
structure Sg where
 S:Nat
 N:Nat
 C1:Nat
 C2:Nat
 C3:Nat
 pc:AC
 pr:AC
 la:AC
 vv:AC
 lc:List Cl
 ld:List Lad
 lr:List Rl
 v:List Int
 c:Nat
 limit:Nat
def SrC(S:Nat)(r:Option Nat)(k:Nat):Prop:=k=S\/r=some k
structure Clo(z:Sg)(H:Hp):Prop where
 n:(z.C1<z.N/\z.C2<z.N/\z.C3<z.N)/\z.N<=H.nx
 s:z.C1≠z.S/\z.C2≠z.S/\z.C3≠z.S
 g1:H.get z.C1=some (.arr [.o (.ptr z.S 0 0 7)] 127 0 0)
 g2:H.get z.C2=some (.arr [.o (.clo 102 [(z.C1,0,0,1),(z.C2,0,0,1),(z.C3,0,0,1)])] 193 0 0)
 g3:H.get z.C3=some (.arr [.o (.clo 100 [(z.C2,0,0,1),(z.C1,0,0,1)])] 196 0 0)
section
variable{z:Sg}{H H':Hp}{X Y:Nat->Prop}
def Clo.fr(h:Clo z H)(hf:Fr Y H H')(hy:∀k,Y k->k=z.S\/z.N<=k):Clo z H':=by obtain⟨⟨⟨a1,a2,a3⟩,a4⟩,⟨b1,b2,b3⟩,g1,g2,g3⟩:=h;have hn:=hf.nx;have key:∀k,k<z.N->k≠z.S->H'.get k=H.get k:=λk hk hs=>hf.get k aa λhh=>(hy k hh).elim hs aa;exact⟨⟨⟨a1,a2,a3⟩,aa⟩,⟨b1,b2,b3⟩,(key _ a1 b1).trans g1,(key _ a2 b2).trans g2,(key _ a3 b3).trans g3⟩
structure SrS(z:Sg)(X:Nat->Prop)(H:Hp)(F:AC)(found:List (List Fx))(r:Option Nat):Prop where
 own:SrR H z.S z.pc z.pr z.la z.vv F z.c z.limit
 dat:SrD z.S z.N H z.pc z.pr z.la z.vv z.lc z.lr z.ld z.v
 fnd:Fnd X H F found r
 xs:X z.S
 xn:∀k,X k->k<H.nx
 rn:∀k,r=some k->z.N<=k
 clo:Clo z H
 ok:FOk z.v z.lr (kF z.ld z.v) z.c z.limit found
 le:found.length<=z.limit+1
variable{F:AC}{found:List (List Fx)}{r:Option Nat}{P:List (List Fx)->Prop}
def SrS.gr(h:SrS z X H F found r)(hg:Gr H H'):SrS z X H' F found r:=
 ⟨h.own.gr hg,h.dat.gr hg,h.fnd.gr hg,h.xs,λk hk=>ay (h.xn k hk) hg.nx,h.rn,h.clo.fr hg λ_ h=>h.elim,h.ok,h.le⟩
def Fnd.rlt{l:List (List Fx)}{q:Nat}(h:Fnd X H F l (some q)):q<H.nx/\¬X q:=by
 rcases h with⟨_,_,e⟩|⟨id,gen,lo,us,ex,_,e,_,_,h5,h6,_⟩
 ·cases e
 cases e;exact⟨h5,h6⟩
def SrS.lg(h:SrS z X H F found r)(lg:List Nat):SrS z X ⟨H.t,H.nx,lg⟩ F found r:=⟨h.own,h.dat,h.fnd,h.xs,h.xn,h.rn,⟨h.clo.n,h.clo.s,h.clo.g1,h.clo.g2,h.clo.g3⟩,h.ok,h.le⟩
def SrS.rlt(h:SrS z X H F found r):∀k,r=some k->k<H.nx:=λk hk=>by subst hk;exact h.fnd.rlt.1
def FrQ(z:Sg)(X:Nat->Prop)(n0:Nat)(r:Option Nat)(P:List (List Fx)->Prop)(H':Hp):Prop:=∃F' r' found',SrS z X H' F' found' r'/\(∀k,r'=some k->r=some k\/n0<=k)/\P found'
def SrS.took(h:SrS z X H F found r)(hf:Fr (SrC z.S r) H H')(q:TkQ X H.nx z.S z.pc z.pr z.la z.vv z.c z.limit r P H')(hP:∀f,P f->FOk z.v z.lr (kF z.ld z.v) z.c z.limit f/\f.length<=z.limit+1):FrQ z X H.nx r P H':=by obtain⟨F',r',found',h1,h2,h3,h4⟩:=q;have hy:∀k,SrC z.S r k->k=z.S\/z.N<=k:=λk hk=>hk.imp id (h.rn k);exact⟨F',r',found',⟨h1,h.dat.fr hf hy,h2,h.xs,λk hk=>ay (h.xn k hk) hf.nx,λk hk=>(h3 k hk).elim (h.rn k) λh5=>aD h.clo.n.2 h5,h.clo.fr hf hy,(hP _ h4).1,(hP _ h4).2⟩,h3,h4⟩
def FrQ.lg{n0:Nat}(h:FrQ z X n0 r P H')(lg:List Nat):FrQ z X n0 r P ⟨H'.t,H'.nx,lg⟩:=by obtain⟨F',r',found',h1,h2,h3⟩:=h;exact⟨F',r',found',h1.lg lg,h2,h3⟩
def FrQ.low{n0 n1:Nat}(h:FrQ z X n1 r P H')(hn:n0<=n1):FrQ z X n0 r P H':=by obtain⟨F',r',found',h1,h2,h3⟩:=h;exact⟨F',r',found',h1,λk hk=>(h2 k hk).imp id (aD hn),h3⟩
def FrQ.mono{n0:Nat}{Q:List (List Fx)->Prop}(h:FrQ z X n0 r P H')(hq:∀f,P f->Q f):FrQ z X n0 r Q H':=by obtain⟨F',r',found',h1,h2,h3⟩:=h;exact⟨F',r',found',h1,h2,hq _ h3⟩
end
def gX(G:List Nat):List (Int×AC):=G.map λm:Nat=>((m:Int),AC.b true)
def AW(G:List Nat)(n:Int):Option AV:=(atG (gX G) n).map AV.one
def Giv(H:Hp)(mv:AC)(G:List Nat):Prop:=(mv=.o .nilM/\G=[])\/∃id,mv=.o (.mp id)/\id<H.nx/\tn H id (AW G)/\(G.length<=2->H.get id=some (jS (λx:Int=>.one (.i .i64 x)) (gX G)))
def Giv.lt{H:Hp}{mv:AC}{G:List Nat}(h:Giv H mv G):ltV (.one mv) H.nx:=by
 rcases h with⟨rfl,_⟩|⟨id,rfl,h,_⟩
 ·intro i hi;cases hi
 intro i hi;rw[List.mem_singleton.1 hi];exact h
structure KpF(z:Sg)(H:Hp)(iv nv mv:AC)(items:List Fx)(given:List Nat):Prop where
 it:SlF H iv items
 nw:SlI H nv (bm z.v items)
 gv:Giv H mv given
def Kp(z:Sg)(X:Nat->Prop)(H:Hp)(iv nv mv:AC)(items:List Fx)(given:List Nat):Prop:=∀H',H.nx<=H'.nx->(∀i,i<H.nx->¬X i->H'.get i=H.get i)->KpF z H' iv nv mv items given
section
variable{z:Sg}{H H':Hp}{X Y W:Nat->Prop}{iv nv mv:AC}{items:List Fx}{given:List Nat}
def Kp.now(h:Kp z X H iv nv mv items given):KpF z H iv nv mv items given:=h H (ai _) λ_ _ _=>rfl
def Kp.next(h:Kp z X H iv nv mv items given)(hf:Fr W H H')(hw:∀k,W k->X k\/H.nx<=k)(hy:∀k,Y k->X k\/H.nx<=k):Kp z Y H' iv nv mv items given:=λH2 n g=>h H2 (aD hf.nx n) λi hi hx=>(g i (ay hi hf.nx) λhh=>(hy i hh).elim hx aa).trans (hf.get i hi λhh=>(hw i hh).elim hx aa)
def Kp.gr(h:Kp z X H iv nv mv items given)(hg:Gr H H'):Kp z X H' iv nv mv items given:=h.next hg (λ_ h=>h.elim) λ_ h=>.inl h
def Kp.own{q q2:Option Nat}{items2:List Fx}{iv2 nv2:AC}(h:Kp z X H iv nv mv items given)(hi:tt H iv2 items2 q)(hq:∀k,q=some k->¬X k)(hn:Ez H nv2 (bm z.v items2) q2)(q6:∀k,q2=some k->¬X k):Kp z X H iv2 nv2 mv items2 given:=λH2 n g=>by have hf:Fr X H ⟨H2.t,H2.nx,H.log⟩:=⟨n,g,[],rfl,λ_ h=>by cases h⟩;have a:tt ⟨H2.t,H2.nx,H.log⟩ iv2 items2 q:=dz.fr hi hf hq;have b:Ez ⟨H2.t,H2.nx,H.log⟩ nv2 (bm z.v items2) q2:=dz.fr hn hf q6;exact⟨a.slF,b.slI,(h H2 n g).gv⟩
end
def xq(z:Sg)(left:Nat):Prop:=∀(X:Nat->Prop)(H:Hp)(iv nv mv F:AC)(items:List Fx)(given:List Nat)(found:List (List Fx))(r:Option Nat),SrS z X H F found r->Kp z (SrC z.S r) H iv nv mv items given->cL z.v z.lr (kF z.ld z.v) items->given.Nodup->(∀n∈given,n<z.lr.length)->items.length+given.length+left=z.c ->
 Con E2 102 [.one iv,.one nv,.one mv,.one (.i .i64 (left:Int)),.one (.o (.ptr z.C1 0 0 1)),.one (.o (.ptr z.C2 0 0 1)),.one (.o (.ptr z.C3 0 0 1))] H (SrC z.S r) λq H'=>q=.tup []/\FrQ z X H.nx r (pI z.v z.lr (kF z.ld z.v) z.c z.limit items given found) H'
def Sk:aq prog 100=true:=ae
def EM:aq prog 102=true:=ae
def Nu{z:Sg}(G0:ot z.ld z.lr z.v)(hc:z.c<=3){left:Nat}(Q4:xq z left)(X:Nat->Prop)(H:Hp)(iv nv mv F:AC)(items:List Fx)(given:List Nat)(found:List (List Fx))(r:Option Nat)(p to:Int)(rl:Rl)
  (hs:SrS z X H F found r) (hk:Kp z (SrC z.S r) H iv nv mv items given) (hI:cL z.v z.lr (kF z.ld z.v) items) (u6:given.Nodup) (hgl:∀n∈given,n<z.lr.length) (Z2:items.length+given.length+(left+1)=z.c)
  (hr:rl∈z.lr) (hm:p∈rl.2) (hn:(bm z.v items).getD p.toNat 0=z.v.getD p.toNat 0) (hkn:kF z.ld z.v p to≠0):
  Con E2 100 [.one (.i .i64 p),.one (.i .i64 to),.one iv,.one nv,.one mv,.one (.i .i64 ((left+1:Nat):Int)),.one (.o (.ptr z.C2 0 0 1)),.one (.o (.ptr z.C1 0 0 1))] H (SrC z.S r) λq H'=>q=.tup []/\FrQ z X H.nx r (pI z.v z.lr (kF z.ld z.v) z.c z.limit (items++[uR z.v (kF z.ld z.v) p to]) given found) H':=by
 have hI2:=Qn G0.rp hI hr hm hn hkn;have U3:=G0.rp.pr rl hr p hm;have hv64:=G0.v64;have Z4:items.length<=3:=aa;have hcc2:(items++[uR z.v (kF z.ld z.v) p to]).length+given.length+left=z.c:=by rw[bA,List.length_singleton];omega
 have B7:bm z.v (items++[uR z.v (kF z.ld z.v) p to])=(bm z.v items).set p.toNat to:=Vj to;have U1:Hd _:=G0.vl;have hla:=G0.lad U3.1 U3.2;have hlb:left<=3:=aa;replace hn:=hd hn;replace hkn:=hd hkn;replace Z2:=hd Z2;replace hcc2:=hd hcc2;replace B7:=hd B7;refine Con.of rfl λlg=>?_;have hs:=hs.lg lg;have hk:Kp z (SrC z.S r) ⟨H.t,H.nx,lg⟩ iv nv mv items given:=hk;have e0:H.nx=(⟨H.t,H.nx,lg⟩:Hp).nx:=rfl;rw[e0];clear e0;generalize(⟨H.t,H.nx,lg⟩:Hp)=H at hs hk |-
 refine C1.bdy8 57 [] Tryz.func100 λtm h0 h1 h2 h3 h4 h5 h6 h7=>?_;have C4:=hk.now;have i3:=C4.it.lt;have n3:=C4.nw.lt;have m3:=C4.gv.lt;refine zG (qA tyR Pv) λK hK=>?_;refine WE.con (Lh H nv (bm z.v items) C4.nw (by rw[dF];omega)) λw' H1 g1⟨u0,q0,hw,hf0,I7⟩=>?_;subst hw;have W7:=dF items z.v;rcases hf0 with⟨_,h0,_⟩|⟨rid,lo,gen,hqe,rfl,hrg,Y1,N4,X6⟩
 ·omega
 have hrH:H.nx<=rid:=I7 rid hqe;have R6:=aa3 (acc:=bm z.v items) (a:=to) U3.1 (by rw[dF];exact U3.2);have hle:p.toNat+1<=((bm z.v items).map (AC.i .i64)).length:=by rw[cT,dF];omega
 replace hqe:=hd hqe;replace N4:=hd N4;replace I7:=hd I7;have hxa:p<(bm z.v items).length:=by rw[dF];exact U3.2
 generalize hacc:bm z.v items=acc at *;replace hacc:=hd hacc;replace W7:=hd W7;refine zS tyR ?_;apply hK.out;refine zW (zDf tyR (ixI U3.1 hxa) R6 bR hle) ?_;refine R1.gen (λA2 H2=>Gr H H2/\Ez H2 (.o (.sl rid gen 0 acc.length 1)) (acc.set p.toNat to) (some rid)/\slot A2.tm 0=.one (.i .i64 (p:Int))/\ja A2 to (MD A2 2 4 5 6 7 14 (iv) (mv) (.i .i64 ((left+1:Nat):Int)) (.o (.ptr z.C2 0 0 1)) (.o (.ptr z.C1 0 0 1)) (.o (.sl rid gen 0 acc.length 1)) 57 []))
  ⟨g1.mod _ (.inl hrH),.inr ⟨rid,gen,gen,rfl,by rw[fq],ao rfl,ai _,by rw[cT,bR],X6⟩,zL⟩ ?_
 clear h0 h1 h2 h3 h4 h5 h6 h7 tm hK K R6 hle hrg X6 i3 n3 m3;rintro A H2 ⟨g2,V0,t0,t1,t2,t4,t5,t6,t7,t14,A0,B0⟩;have F2:=hs.gr g2;have R3:=hk.gr g2;have hkn2:=R3.now;have i3:=hkn2.it.lt;have n3:=V0.lt;have m3:=hkn2.gv.lt;obtain⟨z7,Q6⟩:=F2.own;have c1:z.C1<H2.nx:=by have:=F2.clo.n;omega
 have c2:z.C2<H2.nx:=by have:=F2.clo.n;omega
 have G1:=F2.clo.g1;have G2:=F2.clo.g2;have hwl:IntKind.i64.wrap (((left+1:Nat):Int)-1)=(left:Int):=by rw[aI aa aa];omega
 repeat refine R1.aM ?_
 refine R1.e_q 31 ae λK hK=>?_;refine zQ (qA tyR Cr) ?_;refine WE.BT (Ac H2 iv items hkn2.it aa) λw' H3 g3⟨u1,q1,hw,J7,P6⟩=>?_;subst hw;have hs3:=F2.gr g3;have hn23:=g3.nx;obtain⟨hS3,hS4⟩:=hs3.own;have hD3:=hs3.dat.now;obtain⟨idv,gv,offv,cellsv,a8,y8,R7,e3,e4⟩:=mD F2.dat.now.vi U3.1 U3.2;have htl:p<z.ld.length:=by have:=U1.out;omega
 obtain⟨idl,gl,offl,cellsl,ul,O7,hidl,hgrl,Z5,f3,f4⟩:=vd F2.dat.now.la U3.1 htl;rw[a8,O7]at Q6 hS4;have hgrv3:rowOf (H3.get idv) gv=some cellsv:=by rw[g3.get _ y8 aF];exact R7
 have hgrl3:rowOf (H3.get idl) gl=some cellsl:=by rw[g3.get _ hidl aF];exact hgrl
 have hidv3:idv<H3.nx:=aa;have hidl3:idl<H3.nx:=aa;have c13:z.C1<H3.nx:=aa;have G13:=hs3.clo.g1;have lu1:=J7.lt;replace P6:=hd P6;replace J7:=hd J7;replace V0:=hd V0;replace Z5:=hd Z5;replace O7:=hd O7;replace a8:=hd a8;replace hn23:=hd hn23;refine zQ (zDe tyR (ixI U3.1 U3.2) (ixI U3.1 htl) yj) ?_;refine WE.BT (wR G0 H3 p to ul U3.1 U3.2 (Z5.out.gr g3)) λw' H4 g4 hq4=>?_;subst hq4;have hn34:=g4.nx;have hf4:tt H4 u1 items q1:=dz.fr J7.out g4 (λ_ _=>aF);have g24:Gr H2 H4:=g3.gr g4;obtain⟨zz,hz,S2⟩:=ME;obtain⟨hlt9,u9,H9,r9,X2,ho9,l8,hr9⟩:=gZ pX Le hz S2 aE hf4 [.i .i64 p,.i .i64 (z.v.getD p.toNat 0),.i .i64 to,.i .i64 (kF z.ld z.v p to)] rfl aa;clear hz S2 zz;have hq1':∀i,q1=some i->H2.nx<=i:=P6.out;have hfl:FrL H2.nx (H4.new (.arr [.i .i64 p,.i .i64 (z.v.getD p.toNat 0),.i .i64 to,.i .i64 (kF z.ld z.v p to)] 80 0 0)) H9:=FrL.new l8 (by have:=hn23.out;omega) hq1';have g49:Gr H2 H9:=g24.then l8 λi hi=>.inl (hq1' i hi);have hrow9:tt H9 u9 (items++[uR z.v (kF z.ld z.v) p to]) (some r9):=by show dz _ _ _ _ _ _ _;rw[bA,pk];exact ho9
 have hrw9:Ez H9 (.o (.sl rid gen 0 acc.length 1)) (bm z.v (items++[uR z.v (kF z.ld z.v) p to])) (some rid):=by rw[B7.out];exact dz.fr V0.out g49 (λ_ _=>aF)
 have C7:H2.nx<=r9:=hr9.elim (hq1' r9) λh=>by have:=hn23.out;omega
 have hridn:H.nx<=rid:=hrH;have hgH9:Gr H H9:=g2.gr g49;have hs9:=hs.gr hgH9;have hnotX:∀k,H.nx<=k->¬SrC z.S r k:=λk hk hh=>by
  rcases hh with hh|hh
  ·have:=hs.own.1;omega
  have:=hs.rlt k hh;omega
 have hk9:Kp z (SrC z.S r) H9 u9 (.o (.sl rid gen 0 acc.length 1)) mv (items++[uR z.v (kF z.ld z.v) p to]) given:=
  (hk.gr hgH9).own hrow9 (λk hk=>by cases hk;exact hnotX _ (by have:=g2.nx;omega)) hrw9 λk hk=>by cases hk;exact hnotX _ hridn
 clear l8 hr9 ho9 hf4;replace hs9:=hd hs9;replace hk9:=hd hk9;replace hnotX:=hd hnotX;replace hrow9:=hd hrow9;replace hrw9:=hd hrw9;replace hq1':=hd hq1';replace C7:=hd C7;replace hridn:=hd hridn;replace hgH9:=hd hgH9;replace hfl:=hd hfl;refine zQ (zDd tyR EM rq) ?_;refine⟨hlt9,hfl.out,?_⟩;refine WE.con (Q4 X H9 u9 (.o (.sl rid gen 0 acc.length 1)) mv F (items++[uR z.v (kF z.ld z.v) p to]) given found r hs9.out hk9.out hI2 u6 hgl hcc2.out) λw' H10 f10⟨hw,hq⟩=>?_;subst hw;replace hq:=hd hq;replace f10:=hd f10;refine zQ tyR ?_;apply hK.out;exact⟨_,_,bp (.inl rfl) qe,(Fr.none hgH9.out).then f10.out λk h=>.inr h,λlg'=>⟨rfl,(hq.out.low hgH9.out.nx).lg lg'⟩⟩
def uy(n:Nat):∀G:List Nat,atG (gX G) (n:Int)=if n∈G then some (.b true)else none
 |[]=>rfl
 |m::G=>by
  have e:atG (gX (m::G)) (n:Int)=if(m:Int)=(n:Int)then some (.b true)else atG (gX G) (n:Int):=rfl;rw[e,uy n G];by_cases h:m=n
  ·subst h;rw[ad rfl,ad (bh ..)]
  rw[ab aa];by_cases h2:n∈G
  ·rw[ad h2,ad (aU _ h2)]
  rw[ab h2,ab λhh=>(List.mem_cons.1 hh).elim (λe=>h e.symm) h2]
def Giv.look{H:Hp}{mv:AC}{G:List Nat}(h:Giv H mv G)(n:Nat):bI prog H 3 (.one (.b false)) (.one mv) (.one (.i .i64 (n:Int))) false=.val (.one (.b (decide (n∈G)))) H:=by
 rcases h with⟨rfl,rfl⟩|⟨id,rfl,_,hm,_⟩
 ·rw[lookup_nil (Fv Fw) (k:=(n:Int))];rfl
 rw[Ul Fw hm];unfold AW;rw[uy];by_cases hn:n∈G
 ·rw[ad hn,aL hn];rfl
 rw[ab hn,aV hn];rfl
def Nx(X:Nat->Prop)(H H':Hp):Prop:=H.nx<=H'.nx/\∀i,i<H.nx->¬X i->H'.get i=H.get i
section
variable{X Y:Nat->Prop}{H1 H2 H3:Hp}
def Nx.refl(H:Hp):Nx X H H:=⟨ai _,λ_ _ _=>rfl⟩
def Nx.fr(h:Nx X H1 H2):Fr X H1 ⟨H2.t,H2.nx,H1.log⟩:=⟨h.1,h.2,[],rfl,λ_ h=>by cases h⟩
def Nx.of(h:Fr X H1 H2):Nx X H1 H2:=⟨h.nx,h.get⟩
def Nx.then(h:Nx X H1 H2)(k:Nx Y H2 H3)(hy:∀i,Y i->X i\/H1.nx<=i):Nx X H1 H3:=
 ⟨aD h.1 k.1,λi hi hx=>(k.2 i (ay hi h.1) λhh=>(hy i hh).elim hx aa).trans (h.2 i hi hx)⟩
def Nx.gr(h:Nx X H1 H2)(k:Gr H2 H3):Nx X H1 H3:=h.then (Nx.of k) λ_ h=>h.elim
end
structure Bs(z:Sg)(H1:Hp)(b:Nat)(iv nv mv:AC)(left:Nat)(items:List Fx)(given:List Nat)(r0:Option Nat):Prop where
 kp:Kp z (SrC z.S r0) H1 iv nv mv items given
 b0:H1.get b=some (.arr [iv] 30 0 0)
 b1:H1.get (b+1)=some (.arr [nv] 27 0 0)
 b2:H1.get (b+2)=some (.arr [mv] 194 0 0)
 b3:H1.get (b+3)=some (.arr [.i .i64 (left:Int)] 3 0 0)
 n:b+3<H1.nx
 ne:∀j,b<=j->¬SrC z.S r0 j
 nb:z.N<=b
 I:cL z.v z.lr (kF z.ld z.v) items
 nd:given.Nodup
 gl:∀n∈given,n<z.lr.length
 cc:items.length+given.length+left=z.c
structure Wk(z:Sg)(X:Nat->Prop)(H1:Hp)(r0:Option Nat)(H:Hp)(F:AC)(found:List (List Fx))(r:Option Nat):Prop where
 nx:Nx (SrC z.S r0) H1 H
 st:SrS z X H F found r
 rr:∀k,r=some k->r0=some k\/H1.nx<=k
section
variable{z:Sg}{X:Nat->Prop}{H1 H H':Hp}{b:Nat}{iv nv mv F:AC}{left:Nat}{items:List Fx}{given:List Nat}{r0 r:Option Nat}{found:List (List Fx)}
def Wk.gr(h:Wk z X H1 r0 H F found r)(g:Gr H H'):Wk z X H1 r0 H' F found r:=⟨h.nx.gr g,h.st.gr g,h.rr⟩
structure BxF(H:Hp)(b:Nat)(iv nv mv:AC)(left:Nat):Prop where
 b0:H.get b=some (.arr [iv] 30 0 0)
 b1:H.get (b+1)=some (.arr [nv] 27 0 0)
 b2:H.get (b+2)=some (.arr [mv] 194 0 0)
 b3:H.get (b+3)=some (.arr [.i .i64 (left:Int)] 3 0 0)
 n:(b<H.nx/\b+1<H.nx)/\b+2<H.nx/\b+3<H.nx
def Bs.box(h:Bs z H1 b iv nv mv left items given r0)(k:Nx (SrC z.S r0) H1 H):BxF H b iv nv mv left:=by have hn:=h.n;have hk:=k.1;exact⟨(k.2 _ aa (h.ne _ aa)).trans h.b0,(k.2 _ aa (h.ne _ aa)).trans h.b1,(k.2 _ aa (h.ne _ aa)).trans h.b2,(k.2 _ aa (h.ne _ aa)).trans h.b3,aa⟩
def Bs.now(h:Bs z H1 b iv nv mv left items given r0)(k:Nx (SrC z.S r0) H1 H):KpF z H iv nv mv items given:=h.kp H k.1 k.2
def Bs.kpn(h:Bs z H1 b iv nv mv left items given r0)(k:Nx (SrC z.S r0) H1 H)(hr:∀j,r=some j->r0=some j\/H1.nx<=j):Kp z (SrC z.S r) H iv nv mv items given:=λH2 n g=>
 h.kp H2 (aD k.1 n) λi hi hx=>(g i (ay hi k.1) λhh=>by
  rcases hh with hh|hh
  ·exact hx (.inl hh)
  exact(hr i hh).elim (λh=>hx (.inr h)) aa).trans (k.2 i hi hx)
def Wk.call(h:Wk z X H1 r0 H F found r)(f:Fr (SrC z.S r) H H'){P:List (List Fx)->Prop}(q:FrQ z X H.nx r P H'):∃F' r' found',Wk z X H1 r0 H' F' found' r'/\P found':=by obtain⟨F',r',found',h1,h2,h3⟩:=q;have hn:=h.nx.1;exact⟨F',r',found',⟨h.nx.then (Nx.of f) λi hi=>hi.elim (λe=>.inl (.inl e)) λe=>(h.rr i e).imp .inr id,h1,λk hk=>(h2 k hk).elim (h.rr k) λh4=>.inr (aD hn h4)⟩,h3⟩
end
def wI(w:Option Nat):Int:=match w with|some n=>(n:Int)|none=>-1
def YX(z:Sg)(items:List Fx)(given:List Nat)(w:Option Nat):Prop:=match w with|none=>∀n,n∉given->¬mf z.v z.lr (bm z.v items) n|some n=>n∉given/\∃r,z.lr[n]?=some r/\bL (bm z.v items) 0 r.2≠z.v.getD r.1.toNat 0
def srch{c:Code}(hc:atF Tryz.f102 [1,0,1,1,1,0,1]=some c){z:Sg}(G0:ot z.ld z.lr z.v){X:Nat->Prop}{H1:Hp}{b:Nat}{iv nv mv F:AC}{left:Nat}{items:List Fx}{given:List Nat}{r0 r:Option Nat}{found:List (List Fx)}{rn:Option Nat}{H:Hp}{A:ag}{K:ax->ag->Hp->Prop}
  (hB:Bs z H1 b iv nv mv left items given r0) (hW:Wk z X H1 r0 H F found r)
  (hs:slot A.tm 4=.one (.o (.ptr z.C1 0 0 1))/\slot A.tm 5=.one (.o (.ptr z.C2 0 0 1))/\slot A.tm 6=.one (.o (.ptr z.C3 0 0 1))/\slot A.tm 7=.one (.o (.ptr b 0 0 1))/\slot A.tm 8=.one (.o (.ptr (b+1) 0 0 1))/\slot A.tm 9=.one (.o (.ptr (b+2) 0 0 1))/\slot A.tm 10=.one (.o (.ptr (b+3) 0 0 1)) /\
   slot A.tm 11=.one (.i .i64 (-1))/\slot A.tm 43=.one z.pr/\slot A.tm 44=.one (.i .i64 (z.lr.length:Int))/\slot A.tm 45=.one (.i .i64 0)/\A.nt=228/\A.dfr=[])
  (hK:∀(A2:ag)(H2:Hp)(w:Option Nat),Gr H H2->YX z items given w->slot A2.tm 4=.one (.o (.ptr z.C1 0 0 1))/\slot A2.tm 5=.one (.o (.ptr z.C2 0 0 1))/\slot A2.tm 6=.one (.o (.ptr z.C3 0 0 1))/\slot A2.tm 7=.one (.o (.ptr b 0 0 1))/\slot A2.tm 8=.one (.o (.ptr (b+1) 0 0 1))/\slot A2.tm 9=.one (.o (.ptr (b+2) 0 0 1))/\slot A2.tm 10=.one (.o (.ptr (b+3) 0 0 1)) /\
   slot A2.tm 11=.one (.i .i64 (wI w))/\A2.nt=228/\A2.dfr=[]->K .normal A2 H2):R1 E2 none c A H K:=by
 cases hc
 obtain⟨t4,t5,t6,t7,t8,t9,t10,t11,t43,t44,t45,A0,B0⟩:=hs;replace hK:=hd hK;replace hB:=hd hB;replace hW:=hd hW;refine R1.cR λK1 k1 k2 k3 k4=>?_;refine R1.loop (λm A H2=>∃i:Nat,m=z.lr.length-i/\i<=z.lr.length/\Gr H H2/\Hd (∀n,n<i->n∉given->¬mf z.v z.lr (bm z.v items) n)/\dk A z.C1 z.C2 z.C3 b (b+1) (b+2) (b+3) (-1) (pF A 43 44 45 (z.pr) (.i .i64 (z.lr.length:Int)) (.i .i64 (i:Int)) 228 [])) ?_ z.lr.length
  ⟨0,rfl,Nat.zero_le _,Fr.refl _,λn h=>absurd h (Nat.not_lt_zero n),t4,t5,t6,t7,t8,t9,t10,t11,t43,t44,t45,A0,B0⟩
 clear t4 t5 t6 t7 t8 t9 t10 t11 t43 t44 t45 A0 B0 A;rintro m A H2 ⟨i,rfl,hil2,g2,M4,t4,t5,t6,t7,t8,t9,t10,t11,t43,t44,t45,A0,B0⟩;have hW2:=hW.out.gr g2;have hD2:=hW2.st.dat.now;have p1:=hD2.rl.len;have p3:=hD2.rl.lt;have hr64:=G0.r64;refine zW tyR ?_;refine zI tyR (λU4=>?_) (λU4=>?_)
 ·have D0:i<z.lr.length:=aa;have ex:=aO D0;have S0:=List.drop_eq_getElem_cons D0;have Y2:=dK D0;have I0:=cU D0;generalize z.lr[i]=x at ex S0 Y2 I0;have N2:=bw i;have o6:=G0.rp.tr x I0;have hpr:=G0.rp.pr x I0;have hpl:=G0.rp.pl x I0;obtain⟨idr,g,off,cells,v8,hid,B2,Q0⟩:=hD2.rl.open aa;obtain⟨u1,Y0⟩:=Q0 i x ex;obtain⟨V2,y1,y2,_,_,_,_⟩:=Y0;clear Q0 Y2 I0 S0;have lu1:=V2.lt;rw[v8]at t43 p1 p3;replace v8:=hd v8;replace ex:=hd ex;replace hW2:=hd hW2;replace hD2:=hd hD2;refine zW tyR ?_;refine R1.ed λK2 q1 q2 q3 q4=>?_;refine zG (qA tyR (ixC D0)) λK hK'=>?_;apply hK'.out;refine R1.gen (λA4 H4=>Gr H2 H4/\H2.nx<H4.nx/\H4.get H2.nx=some (.arr [.i .i64 x.1,u1] 82 0 0)/\dk A4 z.C1 z.C2 z.C3 b (b+1) (b+2) (b+3) (-1) (mX A4 i (yf A4 13 43 44 45 (.o (.ptr H2.nx 0 0 2)) (.o (.sl idr g off z.lr.length 2)) (.i .i64 (z.lr.length:Int)) (.i .i64 (i:Int)) 228 [])))
   ⟨((Fr.refl _).new _).mod _ (.inl (ai _)),aZ _,ao rfl,zL⟩ ?_
  clear t4 t5 t6 t7 t8 t9 t10 t11 t43 t44 t45 A0 B0 A hid B2 y1 y2 hK' K p1 p3 lu1;rintro A H4 ⟨g4,n4,rx,t4,t5,t6,t7,t8,t9,t10,t11,t12,t13,t43,t44,t45,A0,B0⟩;have g24:=g2.gr g4;have B3:=hW.out.gr g24;obtain⟨x0,x1,x2,x3,⟨m0,m1⟩,m2,m3⟩:=hB.out.box B3.nx;have hkp:=hB.out.now B3.nx;have B4:=hkp.gv.look i;have hmv:=hkp.gv.lt;have hnv:=hkp.nw.lt;have hcn:=B3.st.clo.n;have c1:z.C1<H4.nx:=aa;have G1:=B3.st.clo.g1;have G1:=G1;obtain⟨z7,Q6⟩:=B3.st.own;clear hcn x0 x3 m0 m3;by_cases hgi:i∈given
  ·rw[aL hgi]at B4;have hno2:Hd (∀n,n<i+1->n∉given->¬mf z.v z.lr (bm z.v items) n):=λn hn hg=>by
    rcases cO n i with h|h
    ·exact M4.out n h hg
    have:n=i:=aa;subst this;exact absurd hgi hg
   replace hgi:=hd hgi;replace hkp:=hd hkp;replace B3:=hd B3;refine zO (qA tyR jd) λK hK'=>?_;apply hK'.out;refine R1.lp (λA5=>dk A5 z.C1 z.C2 z.C3 b (b+1) (b+2) (b+3) (-1) (yf A5 43 44 45 67 (.o (.sl idr g off z.lr.length 2)) (.i .i64 (z.lr.length:Int)) (.i .i64 (i:Int)) (.b false) 228 [])) zL ?_;clear t4 t5 t6 t7 t8 t9 t10 t11 t12 t13 t43 t44 t45 A0 B0 A hK' K;rintro A ⟨t4,t5,t6,t7,t8,t9,t10,t11,t43,t44,t45,t67,A0,B0⟩;rw[<-v8.out]at t43;refine zW tyR ?_;apply q1.out;refine zW tyR ?_;exact⟨z.lr.length-(i+1),aa,i+1,rfl,D0,g24,hno2,zL⟩
  rw[aV hgi]at B4;replace hgi:=hd hgi;replace hkp:=hd hkp;replace B3:=hd B3;refine zO (zDd tyR jd uD) λK hK'=>?_;refine WE.BT (sE H4 u1 nv x.1 x.2 (bm z.v items) ((V2.gr g4)) hkp.out.nw (by rw[dF];exact hpr) aa) λw' H5 g5 hq5=>?_;subst hq5;have X7:=B3.out.gr g5;have hn45:=g5.nx;generalize D3:bL (bm z.v items) 0 x.2=n;obtain⟨hS3,hS4⟩:=X7.st.own;obtain⟨idv,gv,offv,cellsv,a8,y8,R7,e3,e4⟩:=mD B3.out.st.dat.now.vi o6.1 o6.2;have hgrv5:rowOf (H5.get idv) gv=some cellsv:=by rw[g5.get _ y8 aF];exact R7
  have hidv5:idv<H5.nx:=aa;have c15:z.C1<H5.nx:=aa;have G15:=X7.st.clo.g1;have rx5:=(g5.get _ n4 aF).trans rx;have n45:H2.nx<H5.nx:=aa;rw[a8]at hS4 Q6;replace a8:=hd a8;replace hn45:=hd hn45;replace X7:=hd X7;by_cases e:n=z.v.getD x.1.toNat 0
  ·have ce:=beq_iff_eq.2 e;have hno2:Hd (∀n,n<i+1->n∉given->¬mf z.v z.lr (bm z.v items) n):=λm hm hg=>by
    rcases cO m i with h|h
    ·exact M4.out m h hg
    have:m=i:=aa;subst this;rintro⟨r',h1,h2⟩;rw[ex.out]at h1;cases h1
    exact h2 (D3.trans e)
   replace e:=hd e;replace D3:=hd D3;refine zQ (zDd tyR jd (ixI o6.1 o6.2)) ?_;apply hK'.out;refine R1.lp (λA5=>dk A5 z.C1 z.C2 z.C3 b (b+1) (b+2) (b+3) (-1) (yf A5 43 44 45 67 (.o (.sl idr g off z.lr.length 2)) (.i .i64 (z.lr.length:Int)) (.i .i64 (i:Int)) (.b false) 228 [])) zL ?_;clear t4 t5 t6 t7 t8 t9 t10 t11 t12 t13 t43 t44 t45 A0 B0 A hK' K;rintro A ⟨t4,t5,t6,t7,t8,t9,t10,t11,t43,t44,t45,t67,A0,B0⟩;rw[<-v8.out]at t43;refine zW tyR ?_;apply q1.out;refine zW tyR ?_;exact⟨z.lr.length-(i+1),aa,i+1,rfl,D0,g24.gr g5,hno2,zL⟩
  have ce:(n==z.v.getD x.1.toNat 0)=false:=aW e;have j5:Hd (YX z items given (some i)):=⟨hgi.out,x,ex.out,λh=>e (D3.symm.trans h)⟩;replace e:=hd e;replace D3:=hd D3;refine zQ (zDd tyR jd (ixI o6.1 o6.2)) ?_;apply hK'.out;refine R1.lp (λA5=>dk A5 z.C1 z.C2 z.C3 b (b+1) (b+2) (b+3) (-1) (mX A5 i (eK A5 67 (.b true) 228 []))) zL ?_;clear t4 t5 t6 t7 t8 t9 t10 t11 t12 t13 t43 t44 t45 A0 B0 A hK' K;rintro A ⟨t4,t5,t6,t7,t8,t9,t10,t11,t12,t67,A0,B0⟩;refine zW tyR ?_;refine q3.out _ _ _ aE ?_;apply k2.out;exact hK.out _ _ (some i) (g24.gr g5) j5.out zL
 have j5:Hd (YX z items given none):=λn hg hw=>by obtain⟨r',h1,h2⟩:=hw;have:=(List.getElem?_eq_some_iff.1 h1).1;exact M4.out n aa hg ⟨r',h1,h2⟩
 refine zW tyR ?_;apply k2.out;exact hK.out _ _ none g2 j5.out zL
abbrev kvI:Int->AV:=λx=>.one (.i .i64 x)
def EK{x:Int}(hx:x<0):∀G:List Nat,atG (gX G) x=none
 |[]=>rfl
 |m::G=>by have e:atG (gX (m::G)) x=if(m:Int)=x then some (.b true)else atG (gX G) x:=rfl;rw[e,ab aa,EK hx G]
def Dv{G G':List Nat}(h:∀m,m∈G↔m∈G'):AW G=AW G':=funext λx=>by
 unfold AW;rcases Int.lt_or_le x 0 with hx|hx
 ·rw[EK hx,EK hx]
 obtain⟨m,rfl⟩:=ze hx;rw[uy,uy];by_cases hm:m∈G
 ·rw[ad hm,ad ((h m).1 hm)]
 rw[ab hm,ab λhh=>hm ((h m).2 hh)]
def abh{G:List Nat}{m:Nat}(h:m∉G):tV (gX G) (m:Int) (.b true)=gX (G++[m]):=by rw[Kz (by rw[uy,ab h])];unfold gX;rw[List.map_append];rfl
def WI{G:List Nat}{i:Nat}{p:Int×AC}(h:(gX G)[i]?=some p):∃m,G[i]?=some m/\p=((m:Int),.b true):=by
 unfold gX at h;rw[pf]at h;cases hg:G[i]? with
 |none=>rw[hg]at h;cases h
 |some m=>rw[hg]at h;exact⟨m,rfl,(dX h).symm⟩
def QD{l:List Nat}{n:Nat}(h:l.Nodup)(hb:∀i∈l,i<n):l.length<=n:=by have:=GF (l₁:=l) (l₂:=List.range n) h λi hi=>List.mem_range.2 (hb i hi);rw[wj]at this;exact this
def Ry{id:Nat}{Q:ax->ag->Hp->Prop}{A:ag}{H:Hp}(h:Q .normal A H):InB id Q (.exit id) A H:=by show(if id=id then Q .normal A H else Q (.exit id) A H);rw[ad rfl];exact h
structure CpQ(H:Hp)(M I n:Nat)(given:List Nat)(H2:Hp):Prop where
 nx:H2.nx=H.nx
 get:∀i,i≠M->i≠I->H2.get i=H.get i
 it:∃x,H2.get I=some (.oth x)
 mp:∃G,H2.get M=some (jS kvI (gX G))/\(∀m,m∈G↔m=n\/m∈given)/\(given.length<=1->G=n::given)
 log:∃l,H2.log=l++H.log/\∀k∈l,k=M\/k=I
def blk2{c:Code}(hc:atF Tryz.f102 [1,0,1,1,1,1,1,1,0,1,0,1,0,1]=some c){z:Sg}{b n M I:Nat}{given:List Nat}{H:Hp}{A:ag}{mv:AC}{K:ax->ag->Hp->Prop}
  (hg:(mv=.o .nilM/\given=[]/\H.get I=some (.oth (.iter none 0 [] 0)))\/∃id,mv=.o (.mp id)/\id≠M/\id≠I/\H.get id=some (jS kvI (gX given))/\H.get I=some (pA id given.length []))
  (u6:given.Nodup) (hn:n∉given) (hM:H.get M=some (jS kvI (gX [n]))) (hMI:M≠I) (hMn:M<H.nx) (hIn:I<H.nx)
  (hs:dk A z.C1 z.C2 z.C3 b (b+1) (b+2) (b+3) n (kO A 14 84 (.o (.mp M)) (.o (.it I)) 228 []))
  (hK:∀(A2:ag)(H2:Hp),Fr (λk=>k=M\/k=I) H H2->tn H2 M (AW (n::given))->(given.length<=1->H2.get M=some (jS kvI (gX (n::given))))->dk A2 z.C1 z.C2 z.C3 b (b+1) (b+2) (b+3) n (eK A2 14 (.o (.mp M)) 228 [])->K .normal A2 H2):R1 E2 none c A H K:=by
 cases hc
 refine R1.Zl (nt:=228) (df:=[]) (λA2 H2=>(aar A2.tm 4 5 6 7 8 9 10 11 14 (.o (.ptr z.C1 0 0 1)) (.o (.ptr z.C2 0 0 1)) (.o (.ptr z.C3 0 0 1)) (.o (.ptr b 0 0 1)) (.o (.ptr (b+1) 0 0 1)) (.o (.ptr (b+2) 0 0 1)) (.o (.ptr (b+3) 0 0 1)) (.i .i64 (n:Int)) (.o (.mp M)))/\CpQ H M I n given H2) rfl ?_ ?_ ?_
 ·refine RA.mono (Q:=λe A' H'=>e=.exit 2/\CpQ H M I n given H'/\dk A' z.C1 z.C2 z.C3 b (b+1) (b+2) (b+3) n (eK A' 14 (.o (.mp M)) 228 [])) ?_ λe A' H' hq=>?_;rotate_left
  ·obtain⟨rfl,h0,h1,h2,h3,h4,h5,h6,h7,h8,h9,h10,h11⟩:=hq;refine Ry ?_;exact⟨rfl,h10,h11,⟨h1,h2,h3,h4,h5,h6,h7,h8,h9⟩,h0⟩
  clear hK;obtain⟨t4,t5,t6,t7,t8,t9,t10,t11,t14,t84,A0,B0⟩:=hs;rcases hg with⟨rfl,rfl,O4⟩|⟨id,rfl,hidM,hidI,hmp,O4⟩
  ·have hov:fT H (.one (.o (.it I)))=.val pC H:=Ut O4;refine RA.round ?_;refine RA.seq ?_;refine RA.region ?_;refine OA.val (v:=pC) (H':=H) (λ_ _=>rfl) (by rw[A0];rfl) (by show fT H (slot A.tm 84)=_;rw[t84];exact hov) ?_;refine OA.val (v:=.one (.b false)) (H':=H) (λ_ _=>rfl) (by rw[bE,A0];rfl) (by show dP H (slot (cE A (some 85) pC).tm 85) 0=_;simp only[an,reduceIte];rfl) ?_;refine OA.nil ?_;refine RA.seq ?_;refine RA.cond (b:=false) (by show slot (cE (cE A (some 85) pC) (some 86) (.one (.b false))).tm 86=_;simp only[an,reduceIte]) ?_;refine RA.exit ?_;exact⟨rfl,⟨rfl,λ_ _ _=>rfl,⟨_,O4⟩,⟨[n],hM,λm=>by simp,λ_=>rfl⟩,⟨[],rfl,λ_ h=>by cases h⟩⟩,zL⟩
  refine RA.loop (λk A H8=>∃(seen picked:List Nat),k=given.length-seen.length/\seen.Nodup/\(∀i∈seen,i<given.length)/\(∀m,m∈picked↔∃i∈seen,given[i]?=some m)/\(given.length<=1->picked=seen.map λi=>given.getD i 0)/\H8.nx=H.nx/\(∀i,i≠M->i≠I->H8.get i=H.get i)/\H8.get I=some (pA id given.length seen)/\H8.get M=some (jS kvI (gX (n::picked)))/\(∃l,H8.log=l++H.log/\∀k∈l,k=M\/k=I)/\dk A z.C1 z.C2 z.C3 b (b+1) (b+2) (b+3) n (kO A 14 84 (.o (.mp M)) (.o (.it I)) 228 [])) ?_ given.length
   ⟨[],[],rfl,List.nodup_nil,λ_ h=>absurd h List.not_mem_nil,λm=>⟨λh=>absurd h List.not_mem_nil,λ⟨i,hi,_⟩=>absurd hi List.not_mem_nil⟩,λ_=>rfl,rfl,λ_ _ _=>rfl,O4,hM,⟨[],rfl,λ_ h=>by cases h⟩,t4,t5,t6,t7,t8,t9,t10,t11,t14,t84,A0,B0⟩
  clear t4 t5 t6 t7 t8 t9 t10 t11 t14 t84 A0 B0 A O4 hM;rintro k A H8 ⟨seen,picked,rfl,snd,sbd,hpk,hex,n8,g8,O4,hM8,hlog,t4,t5,t6,t7,t8,t9,t10,t11,t14,t84,A0,B0⟩;have hmp8:H8.get id=some (jS kvI (gX given)):=(g8 id hidM hidI).trans hmp;have hel:(gX given).length=given.length:=cT ..;rw[<-hel]at O4;refine RA.seq ?_;by_cases L2:∀i,i<given.length->i∈seen
  ·have hov:fT H8 (.one (.o (.it I)))=.val pC H8:=QA O4 hmp8 λi hi=>L2 i (by rwa [hel]at hi);refine RA.region ?_;refine OA.val (v:=pC) (H':=H8) (λ_ _=>rfl) (by rw[A0];rfl) (by show fT H8 (slot A.tm 84)=_;rw[t84];exact hov) ?_;refine OA.val (v:=.one (.b false)) (H':=H8) (λ_ _=>rfl) (by rw[bE,A0];rfl) (by show dP H8 (slot (cE A (some 85) pC).tm 85) 0=_;simp only[an,reduceIte];rfl) ?_;refine OA.nil ?_;refine RA.seq ?_;refine RA.cond (b:=false) (by show slot (cE (cE A (some 85) pC) (some 86) (.one (.b false))).tm 86=_;simp only[an,reduceIte]) ?_;refine RA.exit ?_;have hmm:∀m,m∈picked↔m∈given:=λm=>by
    rw[hpk];constructor
    ·rintro⟨i,_,h⟩;exact iY h
    intro h;obtain⟨i,hi⟩:=List.mem_iff_getElem?.1 h;exact⟨i,L2 i (List.getElem?_eq_some_iff.1 hi).1,hi⟩
   refine⟨rfl,⟨n8,g8,⟨_,O4⟩,⟨n::picked,hM8,λm=>by rw[List.mem_cons,hmm],λhl=>?_⟩,hlog⟩,zL⟩;rw[hex hl];congr 1
   cases given with
   |nil=>
    cases seen with
    |nil=>rfl
    |cons a l=>have:=sbd a (bh ..);cases this
   |cons g gs=>
    cases gs with
    |cons g2 gs=>simp at hl
    |nil=>
     cases seen with
     |nil=>exact absurd (L2 0 (by simp)) List.not_mem_nil
     |cons a l=>
      have ha:a=0:=by have:=sbd a (bh ..);simp at this;exact this
      subst ha;cases l with
      |nil=>rfl
      |cons a2 l=>
       have ha2:a2=0:=by have:=sbd a2 (aU _ (bh ..));simp at this;exact this
       subst ha2;exact absurd (bh ..) (List.nodup_cons.1 snd).1
  obtain⟨i0,T5,hi0s⟩:∃i,i<given.length/\i∉seen:=gh λhn=>L2 λi hi=>gh λh=>hn ⟨i,hi,h⟩;obtain⟨ws,hws,I1,hall2⟩:=QB (kv:=kvI) O4 hmp8 ⟨i0,by rw[hel];exact T5,hi0s⟩;refine RA.region ?_;refine OA.sX (vs:=ws) (λ_ _=>rfl) (by rw[A0];rfl) (by show fT H8 (slot A.tm 84)=_;rw[t84];exact hws) I1 λx hx=>?_;obtain⟨i,pe,hp,hni,rfl⟩:=hall2 x hx;obtain⟨m,hm,rfl⟩:=WI hp;refine OA.val (v:=.one (.b true)) (H':=H8.mod I (pA id (gX given).length (seen++[i]))) (λ_ _=>rfl) (by rw[bE,A0];rfl) (by show dP _ (slot (cE A (some 85) _).tm 85) 0=_;simp only[an,reduceIte];rfl) ?_;refine OA.nil ?_;refine RA.seq ?_;refine RA.cond (b:=true) (by show slot (cE (cE A (some 85) _) (some 86) (.one (.b true))).tm 86=_;simp only[an,reduceIte]) ?_;refine RA.skip ?_;refine RA.of ?_;have hilt:i<given.length:=(List.getElem?_eq_some_iff.1 hm).1;have snd2:(seen++[i]).Nodup:=List.pairwise_append.2 ⟨snd,List.pairwise_singleton _ _,λa ha b hb e=>hni (by rw[<-List.mem_singleton.1 hb,<-e];exact ha)⟩;have sbd2:∀q∈seen++[i],q<given.length:=λq hq=>by
   rcases List.mem_append.1 hq with hq|hq
   ·exact sbd q hq
   rw[List.mem_singleton.1 hq];exact hilt
  have hle2:=QD snd2 sbd2;rw[bA,List.length_singleton]at hle2;have hpk2:∀y,y∈picked++[m]↔∃q∈seen++[i],given[q]?=some y:=λy=>by
   rw[js,hpk];constructor
   ·rintro(⟨q,hq,e⟩|hz)
    ·exact⟨q,ef _ hq,e⟩
    rw[List.mem_singleton.1 hz];exact⟨i,dM _ (List.mem_singleton.2 rfl),hm⟩
   rintro⟨q,hq,e⟩;rcases List.mem_append.1 hq with hq|hq
   ·exact .inl ⟨q,hq,e⟩
   rw[List.mem_singleton.1 hq,hm]at e;exact .inr (List.mem_singleton.2 (dX e).symm)
  have hex2:given.length<=1->picked++[m]=(seen++[i]).map λi=>given.getD i 0:=λhl=>by rw[hex hl,List.map_append];show _=_++[given.getD i 0];rw[bt,hm];rfl
  have hmp2:m∉n::picked:=λh=>by
   rcases List.mem_cons.1 h with h|h
   ·subst h;exact hn (iY hm)
   obtain⟨q,hq,e⟩:=(hpk m).1 h;have hqi:q≠i:=λe=>hni (by rw[<-e];exact hq);obtain⟨l1,e1⟩:=List.getElem?_eq_some_iff.1 e;obtain⟨l2,e2⟩:=List.getElem?_eq_some_iff.1 hm;exact hqi ((List.getElem_inj (h₀:=l1) (h₁:=l2) u6).1 (e1.trans e2.symm))
  obtain⟨lg,elg,flg⟩:=hlog;refine R1.gen (λA9 H9=>H9.nx=H.nx/\(∀i,i≠M->i≠I->H9.get i=H.get i)/\H9.get I=some (pA id (gX given).length (seen++[i]))/\H9.get M=some (jS kvI (gX (n::picked)))/\(∃l,H9.log=l++H.log/\∀k∈l,k=M\/k=I)/\dk A9 z.C1 z.C2 z.C3 b (b+1) (b+2) (b+3) n (kO A9 14 84 (.o (.mp M)) (.o (.it I)) 228 []))
   ⟨n8,λq q1 q2=>(az q2).trans (g8 q q1 q2),ao rfl,(az hMI).trans hM8,⟨I::lg,congrArg (I::·) elg,λk hk=>(List.mem_cons.1 hk).elim .inr (flg k)⟩,zL⟩ ?_
  clear t4 t5 t6 t7 t8 t9 t10 t11 t14 t84 A0 B0 A hws I1 hall2 hx O4 hM8 g8 n8 hmp8 L2 T5 hi0s ws flg elg lg H8;rintro A H9 ⟨n9,g9,hit9,hM9,⟨lg,elg,flg⟩,t4,t5,t6,t7,t8,t9,t10,t11,t14,t84,A0,B0⟩;have hmp9:H9.get id=some (jS kvI (gX given)):=(g9 id hidM hidI).trans hmp;have hent:ju H9 (.one (.o (.it I)))=.val (.tup [(false,[.i .i64 (m:Int)]),(false,[.b true])]) H9:=WJ hit9 hmp9 hp;have hup:bD prog H9 3 (.one (.o (.mp M))) (.one (.i .i64 (m:Int))) (.one (.b true))=.val aP (H9.mod M (jS kvI (gX (n::picked++[m])))):=by rw[KA (Fv Fw) (k:=(m:Int)) (x:=.b true) hM9,abh hmp2]
  have hM9n:M<H9.nx:=aa;replace n9:=hd n9;replace g9:=hd g9;replace hit9:=hd hit9;replace hM9:=hd hM9;replace elg:=hd elg;replace flg:=hd flg;replace hm:=hd hm;replace hp:=hd hp;replace hmp:=hd hmp;replace hmp9:=hd hmp9;replace hmp2:=hd hmp2;replace hex:=hd hex;replace hex2:=hd hex2;replace hpk:=hd hpk;replace hpk2:=hd hpk2;replace hel:=hd hel;replace hn:=hd hn;refine R1.cR λK3 q1 q2 q3 q4=>?_;refine zW (zDe tyR (@RL) hent hup) ?_;apply q1.out;exact⟨given.length-(seen++[i]).length,by rw[bA,List.length_singleton];omega,seen++[i],picked++[m],rfl,snd2,sbd2,hpk2.out,hex2.out,n9.out,λq q1 q2=>(az q1).trans (g9.out q q1 q2),by rw[<-hel.out];exact(az hMI.symm).trans hit9.out,ao rfl,⟨M::lg,congrArg (M::·) elg.out,λk hk=>(List.mem_cons.1 hk).elim .inl (flg.out k)⟩,zL⟩
 ·intro i hi;by_cases h1:i=M
  ·subst h1;refine .inr (.inl ⟨AW (n::given),λA2 H2 hp=>?_⟩);obtain⟨G,a1,a2,_⟩:=hp.2.mp;refine⟨_,_,_,a1,oF 0 _,λx=>?_⟩;rw[si];exact congrFun (Dv λm=>by rw[a2,List.mem_cons]) x
  by_cases h2:i=I
  ·subst h2;exact .inr (.inr λA2 H2 hp=>hp.2.it)
  exact .inl ⟨H.get i,λA2 H2 hp=>hp.2.get i h1 h2⟩
 intro A' H' j;have V1:H.nx<=H'.nx:=j.nx λA2 H2 hp=>mS hp.2.nx.symm;refine hK A' H' ⟨V1,λi hi hx=>j.old i _ hi λA2 H2 hp=>⟨mS hp.2.nx.symm,hp.2.get i (λe=>hx (.inl e)) λe=>hx (.inr e)⟩,j.log _ (λi hi hx=>⟨H.get i,λA2 H2 hp=>hp.2.get i (λe=>hx (.inl e)) λe=>hx (.inr e)⟩) λA2 H2 hp=>?_⟩ ?_ ?_ ?_
 ·obtain⟨l,e,f⟩:=hp.2.log;exact⟨l,e,λk hk=>.inr (f k hk)⟩
 ·refine j.map M _ hMn λA2 H2 hp=>⟨mS hp.2.nx.symm,?_⟩;obtain⟨G,a1,a2,_⟩:=hp.2.mp;refine⟨_,_,_,a1,oF 0 _,λx=>?_⟩;rw[si];exact congrFun (Dv λm=>by rw[a2,List.mem_cons]) x
 ·intro hl;refine j.old M _ hMn λA2 H2 hp=>⟨mS hp.2.nx.symm,?_⟩;obtain⟨G,a1,_,a3⟩:=hp.2.mp;rw[a1,a3 hl]
 refine⟨j.slot 4 _ aa λA2 H2 hp=>hp.1.1,j.slot 5 _ aa λA2 H2 hp=>hp.1.2.1,j.slot 6 _ aa λA2 H2 hp=>hp.1.2.2.1,j.slot 7 _ aa λA2 H2 hp=>hp.1.2.2.2.1,j.slot 8 _ aa λA2 H2 hp=>hp.1.2.2.2.2.1,j.slot 9 _ aa λA2 H2 hp=>hp.1.2.2.2.2.2.1,j.slot 10 _ aa λA2 H2 hp=>hp.1.2.2.2.2.2.2.1,j.slot 11 _ aa λA2 H2 hp=>hp.1.2.2.2.2.2.2.2.1,j.slot 14 _ aa λA2 H2 hp=>hp.1.2.2.2.2.2.2.2.2,j.ntE,j.dfr⟩
abbrev LpZ(z:Sg)(items:List Fx)(given:List Nat)(f0 f1:List (List Fx))(due:List Fx->List Fx->Prop):Prop:=Lp z.v z.lr (kF z.ld z.v) z.c z.limit items given f0 f1 due
abbrev sZ(z:Sg)(items:List Fx)(given:List Nat)(w:Option Nat)(i:Nat):List Fx->List Fx->Prop:=Ex z.v z.lr (kF z.ld z.v) z.c items given w i
abbrev RD(z:Sg)(I T items rest:List Fx)(given:List Nat):Prop:=eO z.v z.lr (kF z.ld z.v) z.c I T items rest given
def Pn{st:Bool}{E:Env}{A:ag}{H:Hp}{next:ag->Hp->Prop}{d:Option Tmp}{ty:TypeId}{pos:String}{af:Array Edge}{gd:Option (Nat×Bool)}{t:TypeId}{m k x:Operand}:
  SK st E ⟨d,.insert t m k x,ty,pos,af,gd⟩ A H next=(True/\upN next A d E.P H (jl E.P t) (ev A.tm m) (ev A.tm k) (ev A.tm x)):=by
 show(True/\fM _ ((ndF (jl E.P t) _ _).run A.tm H))=_;rw[du];rfl
def tn.same{H H':Hp}{id:Nat}{look:Int->Option AV}(h:tn H id look)(e:H'.get id=H.get id):tn H' id look:=by unfold tn;rw[e];exact h
def aaY{c:Code}(hc:atF Tryz.f102 [1,0,1,1,1,1,1,1,0,1,0]=some c){z:Sg}{X:Nat->Prop}{H1:Hp}{b l n:Nat}{iv nv mv F:AC}{items:List Fx}{given:List Nat}{r0 r:Option Nat}{f0 found:List (List Fx)}{H:Hp}{A:ag}{K:ax->ag->Hp->Prop}
  (o7:z.c<=3) (hB:Bs z H1 b iv nv mv (l+1) items given r0) (hW:Wk z X H1 r0 H F found r) (Q4:xq z l) (hn:n∉given) (hnl:n<z.lr.length)
  (hL:LpZ z items given f0 found λI T=>(∃rest,RD z I T items rest (n::given))\/sZ z items given (some n) 0 I T)
  (hs:dk A z.C1 z.C2 z.C3 b (b+1) (b+2) (b+3) n (A.nt=228/\A.dfr=[]))
  (hK:∀(A2:ag)(H2:Hp)(F':AC)(r':Option Nat)(found':List (List Fx)),Fr (SrC z.S r) H H2->Wk z X H1 r0 H2 F' found' r'->LpZ z items given f0 found' (sZ z items given (some n) 0)->dk A2 z.C1 z.C2 z.C3 b (b+1) (b+2) (b+3) n (A2.nt=228/\A2.dfr=[])->K .normal A2 H2):R1 E2 none c A H K:=by
 cases hc
 obtain⟨t4,t5,t6,t7,t8,t9,t10,t11,A0,B0⟩:=hs;have hgl:given.length<=2:=by have:=hB.cc;omega
 have hkp:=hB.now hW.nx;have hgv:=hkp.gv;have hup:bD prog (H.new (.oth (.map [] 0))) 3 (.one (.o (.mp H.nx))) (.one (.i .i64 (n:Int))) (.one (.b true))=.val aP ((H.new (.oth (.map [] 0))).mod H.nx (jS kvI (gX [n]))):=by exact KA (Fv Fw) (H:=H.new (.oth (.map [] 0))) (id:=H.nx) (k:=(n:Int)) (x:=.b true) (l:=[]) (aJ rfl)
 have hnS:z.S<H.nx:=hW.st.own.1;have hnr:=hW.st.rlt;replace hB:=hd hB;replace hW:=hd hW;replace hK:=hd hK;replace hL:=hd hL;replace hgv:=hd hgv;replace hkp:=hd hkp;replace hn:=hd hn;replace hnr:=hd hnr;replace hgl:=hd hgl;refine zG (zDd tyR (@Pn) hup) λK1 Y7=>?_;apply Y7.out;refine R1.gen (λA2 H2=>Gr H H2/\H.nx<H2.nx/\H2.get H.nx=some (jS kvI (gX [n]))/\dk A2 z.C1 z.C2 z.C3 b (b+1) (b+2) (b+3) n (eK A2 14 (.o (.mp H.nx)) 228 []))
  ⟨((Fr.refl _).new _).mod _ (.inl (ai _)),aZ _,ao rfl,zL⟩ ?_
 clear t4 t5 t6 t7 t8 t9 t10 t11 A0 B0 A Y7 K1 hup;rintro A H2 ⟨g2,n2,rM,t4,t5,t6,t7,t8,t9,t10,t11,t14,A0,B0⟩;obtain⟨M,hM⟩:=dZ H.nx;rw[<-hM]at n2 rM t14;have hW2:=hW.out.gr g2;obtain⟨x0,x1,x2,x3,⟨m0,m1⟩,m2,m3⟩:=hB.out.box hW2.nx;have hmv:=(hkp.out.gv.lt);obtain⟨o,hrg,hgo⟩:∃o,jv H2 (.one mv)=.val (.one (.o (.it H2.nx))) (H2.new o)/\∀H3:Hp,(∀i,i<H2.nx->H3.get i=H2.get i)->H3.get H2.nx=some o ->
   ((mv=.o .nilM/\given=[]/\H3.get H2.nx=some (.oth (.iter none 0 [] 0)))\/∃id,mv=.o (.mp id)/\id≠M/\id≠H2.nx/\H3.get id=some (jS kvI (gX given))/\H3.get H2.nx=some (pA id given.length [])):=by
  rcases hgv.out with⟨rfl,rfl⟩|⟨id,rfl,hid,_,hex⟩
  ·exact⟨_,QU,λH3 _ h=>.inl ⟨rfl,rfl,h⟩⟩
  have he:H2.get id=some (jS kvI (gX given)):=(g2.get _ hid aF).trans (hex hgl.out);have hel:(gX given).length=given.length:=cT ..;refine⟨_,XY he,λH3 h1 h2=>.inr ⟨id,rfl,aa,aa,(h1 id aa).trans he,by rw[h2,hel]⟩⟩
 replace hgo:=hd hgo;replace hW2:=hd hW2;replace hM:=hd hM;refine zG (zDd tyR (@RO) hrg) λK1 Y7=>?_;apply Y7.out;refine R1.gen (λA3 H3=>Gr H H3/\M<H3.nx/\H2.nx<H3.nx/\H3.get M=some (jS kvI (gX [n]))/\((mv=.o .nilM/\given=[]/\H3.get H2.nx=some (.oth (.iter none 0 [] 0)))\/∃id,mv=.o (.mp id)/\id≠M/\id≠H2.nx/\H3.get id=some (jS kvI (gX given))/\H3.get H2.nx=some (pA id given.length []))/\dk A3 z.C1 z.C2 z.C3 b (b+1) (b+2) (b+3) n (kO A3 14 84 (.o (.mp M)) (.o (.it H2.nx)) 228 []))
  ⟨g2.new _,zd n2,aZ _,(bu n2).trans rM,hgo.out _ (λi hi=>bu hi) (aJ rfl),zL⟩ ?_
 clear t4 t5 t6 t7 t8 t9 t10 t11 t14 A0 B0 A Y7 K1 hrg hgo o x0 x1 x2 x3 m0 m1 m2 m3 hmv;rintro A H3 ⟨g3,n3,nI,rM3,hgo,ts⟩;have hMn:H.nx<=M:=mS hM.out.symm;have hIn:H.nx<=H2.nx:=g2.nx;have u6:=hB.out.nd;refine R1.seq (blk2 rfl hgo u6 hn.out rM3 aa n3 nI ts λA4 H4 f4 hml hexm ts4=>?_);show R1 E2 none _ A4 H4 K;obtain⟨t4,t5,t6,t7,t8,t9,t10,t11,t14,A0,B0⟩:=ts4;have g4:Gr H H4:=g3.then f4 λk hk=>.inl (by rcases hk with rfl|rfl<;>omega);have hM4:M<H4.nx:=ay n3 f4.nx;have B3:=hW.out.gr g4;have hkp4:=hB.out.kpn B3.nx B3.rr;have hMX:¬SrC z.S r M:=λh=>by
  rcases h with h|h
  ·omega
  have:=hnr.out M h;omega
 have hkpM:Kp z (SrC z.S r) H4 iv nv (.o (.mp M)) items (n::given):=λH5 n5 g5=>by have k5:=hkp4 H5 n5 g5;have e5:=g5 M hM4 hMX;exact⟨k5.it,k5.nw,.inr ⟨M,rfl,aa,tn.same hml e5,λh=>e5.trans (hexm (by rw[List.length_cons]at h;omega))⟩⟩
 have Z2:items.length+(n::given).length+l=z.c:=by have:=hB.out.cc;rw[List.length_cons];omega
 obtain⟨x0,x1,x2,x3,⟨m0,m1⟩,m2,m3⟩:=hB.out.box B3.nx;have c2:z.C2<H4.nx:=by have:=B3.st.clo.n;omega
 have G2:=B3.st.clo.g2;have i3:=hkp4.now.it.lt;have v3:=hkp4.now.nw.lt;have hl3:l<=2:=by have:=hB.out.cc;omega
 have hwl:IntKind.i64.wrap (((l+1:Nat):Int)-1)=(l:Int):=by rw[aI aa aa];omega
 clear hgo u6 hml hexm hkp4 hMX x2 m2;replace Z2:=hd Z2;replace hkpM:=hd hkpM;replace B3:=hd B3;replace g3:=hd g3;replace f4:=hd f4;refine zG (qA tyR EM) λK1 Y7=>?_;refine WE.con (Q4 X H4 iv nv (.o (.mp M)) F items (n::given) found r B3.out.st hkpM.out hB.out.I (List.nodup_cons.2 ⟨hn.out,hB.out.nd⟩) (λm hm=>(List.mem_cons.1 hm).elim (λe=>by rw[e];exact hnl) (hB.out.gl m)) Z2.out) λw' H6 f6⟨hw,hq⟩=>?_;subst hw;obtain⟨F',r',found',hW6,hP⟩:=B3.out.call f6 hq;have hL6:=hL.out.next hP λI T h=>h;have hf:=(Fr.none (X:=SrC z.S r) g4).then f6 λk h=>.inr h;clear hP hq;replace hW6:=hd hW6;replace hL6:=hd hL6;replace hf:=hd hf;refine zS tyR ?_;apply Y7.out;exact hK.out _ _ F' r' found' hf.out hW6.out hL6.out zL
def sA{x:BL}{g:Nat}:rowOf (some (.oth x)) g=none:=rfl
def SlC.no{H H':Hp}{v:AC}{sz n:Nat}{c:List AC}(h:SlC H' v sz n c){k:Nat}{x:BL}(hk:H'.get k=some (.oth x)):k∉(AV.one v).ids:=by
 rcases h.2 with⟨rfl,_⟩|⟨id,g,off,rfl,_,cells,hr,_⟩
 ·exactλh=>by cases h
 intro h;rw[List.mem_singleton.1 h]at hk;rw[hk,sA]at hr;cases hr
section
variable{S N:Nat}{H H':Hp}{pc pr la vv:AC}{lc:List Cl}{lr:List Rl}{ld:List Lad}{v:List Int}
def SrD.abg(h:SrD S N H pc pr la vv lc lr ld v){i:Int}(h0:0<=i)(h1:i<ld.length){id g off:Nat}{cells:List AC}{ul:AC}(hla:la=.o (.sl id g off ld.length 2))(hr:rowOf (H.get id) g=some cells)(hf:(cells.drop (off+i.toNat*2)).take 2=[.o (.str (ld.getD i.toNat ([],[])).1),ul]){k:Nat}(hk:SrX S N k):k∉(AV.one ul).ids:=by
 have hx:(H.mod k (.oth (.dfr true))).get k=some (.oth (.dfr true)):=ao rfl;have hF:=h.2 (H.mod k (.oth (.dfr true))) (ai _) λi hi hn=>az λe=>hn (by rw[e];exact hk);obtain⟨id',g',off',cells',ul',e1,_,T3,Z5,hf',_⟩:=vd hF.la h0 h1;rw[hla]at e1;injection e1 with e1
 injection e1 with e1 e2 e3
 subst e1 e2 e3;by_cases e:id=k
 ·rw[e,hx,sA]at T3;cases T3
 rw[az e,hr]at T3;cases T3
 rw[hf]at hf';injection hf' with _ hf'
 injection hf' with hf' _
 subst hf';exact SlC.no (H:=H) Z5 hx
end
section
variable{z:Sg}{X X0 Y:Nat->Prop}{H1 H H':Hp}{F:AC}{found:List (List Fx)}{r0 r:Option Nat}
def Fnd.wide{l:List (List Fx)}(h:Fnd X H F l r)(hx:∀k,Y k->X k\/H.nx<=k):Fnd Y H F l r:=by
 rcases h with h|⟨id,gen,lo,us,ex,h1,h2,h3,h4,h5,h6,h7,h8⟩
 ·exact .inl h
 refine .inr ⟨id,gen,lo,us,ex,h1,h2,h3,h4,h5,λhh=>(hx _ hh).elim h6 aa,h7,h8.mono λu f⟨a,b⟩=>⟨a,λk hk=>⟨λhh=>(hx _ hh).elim (b k hk).1 ?_,(b k hk).2⟩⟩⟩;have:k<H.nx:=a.lt k hk;omega
def SrS.fr(h:SrS z X H F found r)(f:Fr Y H H')(hy:∀k,Y k->X k/\z.N<=k/\k≠z.S):SrS z X H' F found r:=
 ⟨h.own.fr f λhh=>(hy _ hh).2.2 rfl,h.dat.fr f λk hk=>.inr (hy k hk).2.1,h.fnd.fr f λk hk=>.inl (hy k hk).1,h.xs,λk hk=>ay (h.xn k hk) f.nx,h.rn,h.clo.fr f λk hk=>.inr (hy k hk).2.1,h.ok,h.le⟩
def SrS.wide(h:SrS z X H F found r)(hs:Y z.S)(hn:∀k,Y k->k<H.nx)(hx:∀k,Y k->X k\/H.nx<=k):SrS z Y H F found r:=
 ⟨h.own,h.dat,h.fnd.wide hx,hs,hn,h.rn,h.clo,h.ok,h.le⟩
def Xp(X:Nat->Prop)(a b:Nat)(k:Nat):Prop:=X k\/(a<=k/\k<b)
def Wk.grow(h:Wk z X H1 r0 H F found r)(g:Gr H H'):Wk z (Xp X H.nx H'.nx) H1 r0 H' F found r:=by
 have hs:=h.st;refine⟨h.nx.gr g,?_,h.rr⟩;have h2:SrS z (Xp X H.nx H'.nx) H' F found r:=by have a:Fnd (Xp X H.nx H'.nx) H' F found r:=(hs.fnd.wide (Y:=Xp X H.nx H'.nx) λk hk=>hk.imp id And.left).fr g λ_ h=>h.elim;have b:=hs.gr g;exact⟨b.own,b.dat,a,.inl hs.xs,λk hk=>hk.elim (b.xn k) And.right,b.rn,b.clo,b.ok,b.le⟩
 exact h2
def Wk.nr(h:Wk z X H1 r0 H F found r):∀k,r=some k->k<H.nx/\¬X k:=λk hk=>by subst hk;exact h.st.fnd.rlt
def Wk.sm{L:Nat}(h:Wk z X H1 r0 H F found r)(s:Sm L H H')(hL:X L)(h1:H1.nx<=L)(hN:z.N<=L)(hS:L≠z.S):Wk z X H1 r0 H' F found r:=by
 have f:Fr (λk=>k=L) H ⟨H'.t,H'.nx,H.log⟩:=⟨s.nx,s.get,[],rfl,λ_ h=>by cases h⟩;have a:=h.st.fr f λk(hk:k=L)=>by subst hk;exact⟨hL,hN,hS⟩
 exact⟨h.nx.then (Y:=λk=>k=L) ⟨s.nx,s.get⟩ λk(hk:k=L)=>.inr aa,a.lg H'.log,h.rr⟩
def DfM(X:Nat->Prop)(H1 H:Hp)(dl:List Nat):Prop:=dl.Nodup/\∀d∈dl,X d/\H1.nx<=d/\d<H.nx/\H.get d=some (.oth (.dfr true))
def DfM.nil:DfM X H1 H []:=⟨List.nodup_nil,λ_ h=>absurd h List.not_mem_nil⟩
def DfM.wide{dl:List Nat}(h:DfM X H1 H dl)(hx:∀k,X k->Y k):DfM Y H1 H dl:=⟨h.1,λd hd=>by obtain⟨a,b,c,e⟩:=h.2 d hd;exact⟨hx d a,b,c,e⟩⟩
def DfM.cons{dl:List Nat}{d:Nat}(h:DfM X H1 H dl)(hd:d∉dl)(h1:X d)(h2:H1.nx<=d)(h3:d<H.nx)(h4:H.get d=some (.oth (.dfr true))):DfM X H1 H (d::dl):=
 ⟨List.nodup_cons.2 ⟨hd,h.1⟩,λe he=>(List.mem_cons.1 he).elim (λq=>by rw[q];exact⟨h1,h2,h3,h4⟩) (h.2 e)⟩
def DfM.close:∀{dl:List Nat}{H:Hp},DfM X H1 H dl->∃H',closeAll H dl=some H'/\Fr (λk=>k∈dl) H H'/\H'.nx=H.nx
 |[],H,_=>⟨H,rfl,Fr.refl _,rfl⟩
 |d::dl,H,h=>by
  obtain⟨a,b,c,e⟩:=h.2 d (bh ..);have h2:DfM X H1 (H.mod d (.oth (.dfr false))) dl:=⟨(List.nodup_cons.1 h.1).2,λq hq=>by obtain⟨a',b',c',e'⟩:=h.2 q (aU _ hq);exact⟨a',b',c',(az λhh=>(List.nodup_cons.1 h.1).1 (by rw[<-hh];exact hq)).trans e'⟩⟩
  obtain⟨H',h3,h4,h5⟩:=h2.close;refine⟨H',?_,((Fr.refl _).mod _ (.inr (bh ..))).then h4 λk hk=>.inr (aU _ hk),h5⟩;show(match H.get d with|some (.oth (.dfr true))=>closeAll (H.mod d (.oth (.dfr false))) dl|_=>none)=_;rw[e];exact h3
end
def EV{E:Env}{A:ag}{H H2:Hp}{e:ax}(he:e=.normal\/e=.ret)(hd:closeAll H A.dfr=some H2):aH E [] (e,A,H)=.ok [(.tup [],H2)]:=by
 have key:(aB (closeAll H A.dfr) (R.bad "marks") λh2=>aB (cI E.P [] A.tm h2) (.bad "results") λl=>.ok [(fa l,h2)])=.ok [(.tup [],H2)]:=by rw[hd];rfl
 rcases he with rfl|rfl
 ·exact key
 exact key
def Dr{m:Int}:∀{S:List Sp},(∀x∈S,1<=x.1)->(∃x∈S,x.2.2=m)->gI S m≠0
 |[],_,h=>by obtain⟨_,h,_⟩:=h;cases h
 |x::S,h1,h2=>by
  rw[gI];by_cases c:x.2.2=m
  ·rw[ad c];have:=h1 x (bh ..);omega
  rw[ab c];obtain⟨y,hy,e⟩:=h2;refine Dr (λz hz=>h1 z (aU _ hz)) ⟨y,(List.mem_cons.1 hy).resolve_left λe'=>c (by rw[<-e'];exact e),e⟩
section
variable{z:Sg}{X Y:Nat->Prop}{H1 H H':Hp}{F:AC}{found:List (List Fx)}{r0 r:Option Nat}
def DfM.fr2{dl:List Nat}(h:DfM X H1 H dl)(f:Fr Y H H')(hy:∀d∈dl,¬Y d):DfM X H1 H' dl:=⟨h.1,λd hd=>by obtain⟨a,b,c,e⟩:=h.2 d hd;exact⟨a,b,ay c f.nx,(f.get d c (hy d hd)).trans e⟩⟩
def DfM.sm{dl:List Nat}{L:Nat}(h:DfM X H1 H dl)(s:Sm L H H')(hy:L∉dl):DfM X H1 H' dl:=⟨h.1,λd hd=>by obtain⟨a,b,c,e⟩:=h.2 d hd;exact⟨a,b,ay c s.nx,(s.get d c λhh=>hy (by rw[<-hh];exact hd)).trans e⟩⟩
def Wk.call2(h:Wk z X H1 r0 H F found r)(f:Fr (SrC z.S r) H H'){P:List (List Fx)->Prop}(q:FrQ z X H.nx r P H'):∃F' r' found',Wk z X H1 r0 H' F' found' r'/\(∀k,r'=some k->r=some k\/H.nx<=k)/\P found':=by obtain⟨F',r',found',h1,h2,h3⟩:=q;have hn:=h.nx.1;exact⟨F',r',found',⟨h.nx.then (Nx.of f) λi hi=>hi.elim (λe=>.inl (.inl e)) λe=>(h.rr i e).imp .inr id,h1,λk hk=>(h2 k hk).elim (h.rr k) λh4=>.inr (aD hn h4)⟩,h2,h3⟩
def Wk.kept(h:Wk z X H1 r0 H F found r){k:Nat}(hx:X k)(hs:k≠z.S):¬SrC z.S r k:=λhh=>hh.elim hs λe=>(h.nr k e).2 hx
end
abbrev xp(z:Sg)(items:List Fx)(given:List Nat)(w:Option Nat)(i:Nat)(rl:Rl)(ps:List Int):List Fx->List Fx->Prop:=uf z.v z.lr (kF z.ld z.v) z.c items given w i rl ps
abbrev Rx(z:Sg)(items:List Fx)(given:List Nat)(w:Option Nat)(i:Nat)(rl:Rl)(ps:List Int)(p:Int)(S:List Int):List Fx->List Fx->Prop:=Rw z.v z.lr (kF z.ld z.v) z.c items given w i rl ps p S
def slZ(z:Sg)(p:Int):List Sp:=dI (z.ld.getD p.toNat ([],[])).2 (aC (z.ld.getD p.toNat ([],[])).2 (z.v.getD p.toNat 0)) (dG (z.ld.getD p.toNat ([],[])).1 (z.ld.getD p.toNat ([],[])).2) (z.v.getD p.toNat 0)
def aba{c:Code}(hc:atF Tryz.f102 [1,0,1,1,1,1,1,1,1,1,0,0,1,1,0,0,1,1,1,0,0,1,1,0,0,1,1,1]=some c){z:Sg}(G0:ot z.ld z.lr z.v)(o7:z.c<=3){X:Nat->Prop}{H1:Hp}{b l:Nat}{iv nv mv F:AC}{items:List Fx}{given:List Nat}{r0 r:Option Nat}{f0 found:List (List Fx)}{H:Hp}{A:ag}{K:ax->ag->Hp->Prop}{dl:List Nat}
  (hB:Bs z H1 b iv nv mv (l+1) items given r0) (hW:Wk z X H1 r0 H F found r) (hD:DfM X H1 H dl) (Q4:xq z l) {w:Option Nat} {i PB RB:Nat} {rl:Rl} {p wi ni:Int} {ps:List Int} {u102 u103 u104 u123 u124 u125:AC}
  (N4:rl∈z.lr) (hp:p∈rl.2) (hnw:(bm z.v items).getD p.toNat 0=z.v.getD p.toNat 0) (hL:LpZ z items given f0 found (xp z items given w i rl (p::ps)))
  (hPB:H.get PB=some (.arr [.i .i64 p] 3 0 0)) (hPX:X PB) (hPS:PB≠z.S)
  (hs:dk A z.C1 z.C2 z.C3 b (b+1) (b+2) (b+3) wi (lX A ni RB (VT A.tm 102 103 104 123 124 125 (u102) (u103) (u104) (u123) (u124) (u125) (mY A PB (A.nt=228/\A.dfr=dl)))))
  (hK:∀(A2:ag)(H2:Hp)(X':Nat->Prop)(F':AC)(r':Option Nat)(found':List (List Fx))(dl':List Nat),Fr (SrC z.S r) H H2->(∀k,X k->X' k)->Wk z X' H1 r0 H2 F' found' r'->DfM X' H1 H2 dl'->LpZ z items given f0 found' (xp z items given w i rl ps)->dk A2 z.C1 z.C2 z.C3 b (b+1) (b+2) (b+3) wi (lX A2 ni RB (MD A2 102 103 104 123 124 125 (u102) (u103) (u104) (u123) (u124) (u125) 228 dl'))->K .normal A2 H2):R1 E2 none c A H K:=by
 cases hc
 obtain⟨t4,t5,t6,t7,t8,t9,t10,t11,t16,t17,t102,t103,t104,t123,t124,t125,t19,A0,B0⟩:=hs;have U3:=G0.rp.pr rl N4 p hp;have U1:=G0.vl;have htl:p<z.ld.length:=aa;obtain⟨N0,b8,O6⟩:=G0.lad U3.1 U3.2;have hW0:=hW;obtain⟨z7,Q6⟩:=hW.st.own;obtain⟨idv,gv,offv,cellsv,a8,y8,R7,e3,e4⟩:=mD hW.st.dat.now.vi U3.1 U3.2;obtain⟨idl,gl,offl,cellsl,ul,O7,hidl,hgrl,Z5,f3,f4⟩:=vd hW.st.dat.now.la U3.1 htl;have c8:∀k,SrX z.S z.N k->k∉(AV.one ul).ids:=λk hk=>hW.st.dat.abg U3.1 htl O7 hgrl f3 hk;rw[a8,O7]at Q6;have hPn:PB<H.nx:=hW.st.xn PB hPX;have c1:z.C1<H.nx:=by have:=hW.st.clo.n;omega
 have G1:=hW.st.clo.g1;have lul:=Z5.lt;replace hB:=hd hB;replace hW:=hd hW;replace hW0:=hd hW0;replace hK:=hd hK;replace hL:=hd hL;replace hD:=hd hD;replace c8:=hd c8;replace Z5:=hd Z5;replace U1:=hd U1;replace hnw:=hd hnw;replace N0:=hd N0;replace a8:=hd a8;replace O7:=hd O7;replace hPX:=hd hPX;replace hPS:=hd hPS;refine zO (zDe tyR (ixI U3.1 U3.2) (ixI U3.1 htl) zT) λK1 Y7=>?_;refine WE.BT (xe H (.o (.str (z.ld.getD p.toNat ([],[])).1)) ul (z.v.getD p.toNat 0) lul) λw' H5 g5⟨hv5,Z4,X6,hln⟩=>?_;subst hv5;refine zQ tyR ?_;apply Y7.out;obtain⟨il,hile⟩:=dZ H.nx;rw[<-hile]at Z4 X6 hln;refine R1.lp (λA4=>dk A4 z.C1 z.C2 z.C3 b (b+1) (b+2) (b+3) wi (lX A4 ni RB (VT A4.tm 102 103 104 123 124 125 (u102) (u103) (u104) (u123) (u124) (u125) (mY A4 PB (eK A4 215 (.o (.clo 65 [(il,0,0,2),(il+1,0,0,1)])) 228 dl))))) (by rw[hile];exact zL) ?_;clear t4 t5 t6 t7 t8 t9 t10 t11 t16 t17 t102 t103 t104 t123 t124 t125 t19 A0 B0 A Y7 K1;rintro A ⟨t4,t5,t6,t7,t8,t9,t10,t11,t16,t17,t102,t103,t104,t123,t124,t125,t19,t215,A0,B0⟩;have hul5:SlP H5 ul (z.ld.getD p.toNat ([],[])).2:=Z5.out.gr g5;have hSB:=yM N0.out (show(0:Int)<=z.v.getD p.toNat 0 by omega) O6;obtain⟨S,hS⟩:∃S,S=slZ z p:=⟨_,rfl⟩;have hkS:∀y∈S,kF z.ld z.v p y.2.2≠0:=λy hy=>by rw[hS]at hy;exact Dr (λx hx=>((sC N0.out b8 hx).1).1) ⟨y,hy,rfl⟩
 have hL0:LpZ z items given f0 found (Rx z items given w i rl ps p (S.map λx=>x.2.2)):=Lp.abb hL.out λto hto=>by obtain⟨x,hx,e,_⟩:=AS (m:=to) hto;rw[hS];exact List.mem_map.2 ⟨x,hx,e⟩
 have hSH:H1.nx<=H.nx:=hW.out.nx.1;have hNn:z.N<=H1.nx:=by have:=hB.out.nb;have:=hB.out.n;omega
 have hSn:z.S<H1.nx:=by have h1:=hB.out.ne;have h2:=hB.out.n;exact gh λhh=>h1 z.S aa (.inl rfl)
 have hdlt:∀d∈dl,d<H.nx:=λd hd=>(hD.out.2 d hd).2.2.1;obtain⟨X',hX'⟩:∃X',X'=Xp X H.nx (H5.nx+2):=⟨_,rfl⟩;have hXX:∀k,X k->X' k:=λk hk=>by rw[hX'];exact .inl hk
 have hXn:∀k,H.nx<=k->k<H5.nx+2->X' k:=λk h1 h2=>by rw[hX'];exact .inr ⟨h1,h2⟩
 replace hS:=hd hS;replace hkS:=hd hkS;replace hL0:=hd hL0;replace hdlt:=hd hdlt;replace hXX:=hd hXX;replace hXn:=hd hXn;replace hX':=hd hX';refine R1.cR λK1 k1 k2 k3 k4=>?_;refine R1.range (σ:=AC×Option Nat×List (List Fx)) (g:=65) (caps:=[(il,0,0,2),(il+1,0,0,1)]) (n:=S.length) (ar:=slA S) (D:=λk=>k=il\/k=il+1\/k∈(AV.one ul).ids) (by simp only[Ar,t215]) wB (λ_=>rfl)
  (xd H5 il (il+1) (z.ld.getD p.toNat ([],[])).1 ul (z.ld.getD p.toNat ([],[])).2 (z.v.getD p.toNat 0) aa Z4 hln X6 hul5 N0.out b8 O6 _ _ rfl rfl hSB S hS.out.symm) (λk hk=>by
   rcases hk with h|h|h
   ·omega
   ·omega
   have h2:k<H.nx:=lul k h;have:=g5.nx;omega) (by rw[A0];rfl) (λi _=>Ge S i)
  (λk s H6=>Hd (Wk z X' H1 r0 H6 s.1 s.2.2 s.2.1)/\Hd (LpZ z items given f0 s.2.2 (Rx z items given w i rl ps p ((S.drop k).map λx=>x.2.2)))/\Hd (DfM X' H1 H6 dl)/\H6.get PB=some (.arr [.i .i64 p] 3 0 0)/\H5.nx+2<=H6.nx)
  (λ_ _ _=>False)
  (λs k=>SrC z.S s.2.1 k) ?_ ?_ ?_ (F,r,found) ?_ ?_ ?_ ?_
 ·rintro k s H6 H7 ⟨a1,a2,a3,a4,a5⟩ hs;have:=g5.nx;exact⟨a1.out.sm hs (hXn.out _ aa aa) aa aa aa,a2,a3.out.sm hs λhh=>by have:=hdlt.out _ hh;omega,(hs.get _ aa aa).trans a4,aD a5 hs.nx⟩
 ·rintro e s H6 H7 h hs;exact h
 ·rintro k s H6 q ⟨a1,a2,a3,a4,a5⟩ hq;have g5n:=g5.nx;rcases hq with hq|hq
  ·subst hq;refine⟨aa,aa,aa,λh=>?_⟩;rcases h with h|h|h
   ·omega
   ·omega
   exact c8.out _ (.inl rfl) h
  obtain⟨b1,b2⟩:=a1.out.nr q hq;have b3:=a1.out.st.rn q hq;refine⟨b1,λe=>b2 (hXn.out _ aa aa),λe=>b2 (hXn.out _ aa aa),λh=>?_⟩;rcases h with h|h|h
  ·exact b2 (hXn.out _ aa aa)
  ·exact b2 (hXn.out _ aa aa)
  exact c8.out _ (.inr b3) h
 ·intro H6 g6 n6;have g56:=g5.gr g6;refine⟨?_,by rw[List.drop_zero];exact hL0.out,(hD.out.fr2 g56 λ_ _ h=>h).wide hXX.out,(g56.get _ hPn aF).trans hPB,aa⟩;have h1:=hW.out.grow g56;rw[n6]at h1;rw[hX'.out];exact h1
 ·rintro k s H6 hk ⟨a1,a2,a3,a4,a5⟩ n6;obtain⟨F6,r6,found6⟩:=s;replace a1:=ah a1;have hy:=aO hk;have S0:=List.drop_eq_getElem_cons hk;have hym:=cU hk;generalize S[k]=y at hy S0 hym;have hky:=hkS.out y hym;replace a2:LpZ z items given f0 found6 (Rx z items given w i rl ps p ((S.drop k).map λx=>x.2.2)):=a2;rw[S0,List.map_cons]at a2;rw[Gd hy];obtain⟨kd,sg,nn⟩:=y;refine R1.lp (λA7=>gU A7.tm 6 7 8 (.o (.ptr z.C3 0 0 1)) (.o (.ptr b 0 0 1)) (.o (.ptr (b+1) 0 0 1)) (lV A7 (b+2) (slot A7.tm 10=.one (.o (.ptr (b+3) 0 0 1))/\mY A7 PB (slot A7.tm 216=.agg [.i .i64 kd,.o (.str sg),.i .i64 nn]/\A7.nt=228/\A7.dfr=[])))) ⟨?_,?_,?_,?_,?_,?_,?_,A0,rfl⟩ ?_
  ·show slot (A.tm.set 216 _) 6=_;simp only[cJ,Nat.reduceEqDiff,reduceIte,t6]
  ·show slot (A.tm.set 216 _) 7=_;simp only[cJ,Nat.reduceEqDiff,reduceIte,t7]
  ·show slot (A.tm.set 216 _) 8=_;simp only[cJ,Nat.reduceEqDiff,reduceIte,t8]
  ·show slot (A.tm.set 216 _) 9=_;simp only[cJ,Nat.reduceEqDiff,reduceIte,t9]
  ·show slot (A.tm.set 216 _) 10=_;simp only[cJ,Nat.reduceEqDiff,reduceIte,t10]
  ·show slot (A.tm.set 216 _) 19=_;simp only[cJ,Nat.reduceEqDiff,reduceIte,t19]
  ·show slot (A.tm.set 216 _) 216=_;simp only[cJ,Nat.reduceEqDiff,reduceIte];rfl
  clear t4 t5 t6 t7 t8 t9 t10 t11 t16 t17 t102 t103 t104 t123 t124 t125 t19 t215 A0 B0 hPB Q6 G1 Z4 hln X6 hgrl R7 y8 hidl e3 e4 f3 f4;rintro A7 ⟨t6,t7,t8,t9,t10,t19,t216,A0,B0⟩;clear S0 hy;replace a2:=hd a2;replace hky:=hd hky;replace hym:=hd hym;refine zW tyR ?_;refine⟨rfl,((Fr.refl _).new _).mod _ (.inl (ai _)),λH8 n8 s8=>?_⟩;have g67:Gr H6 ((H6.new (.arr [.i .i64 0,.o (.str []),.i .i64 0] 63 0 0)).mod H6.nx (.arr [.i .i64 kd,.o (.str sg),.i .i64 nn] 63 0 0)):=((Fr.refl _).new _).mod _ (.inl (ai _));have gu:H8.get H6.nx=some (.arr [.i .i64 kd,.o (.str sg),.i .i64 nn] 63 0 0):=by rw[s8.get _ (by show H6.nx<H6.nx+1;omega) aa];exact ao rfl
  have n8':H8.nx=H6.nx+1:=n8;have g5n:=g5.nx;have hW8:Wk z X' H1 r0 H8 F6 found6 r6:=(a1.out.gr g67).sm s8 (hXn.out _ aa aa) aa aa aa;have hD8:DfM X' H1 H8 dl:=(a3.out.fr2 g67 λ_ _ h=>h).sm s8 λhh=>by have:=hdlt.out _ hh;omega
  have hP8:H8.get PB=some (.arr [.i .i64 p] 3 0 0):=by rw[s8.get _ (by show PB<H6.nx+1;omega) aa,az aa,bu aa];exact a4
  have lu:H6.nx<H8.nx:=aa;have hPn8:PB<H8.nx:=aa;clear n8 s8 g67;obtain⟨x0,x1,x2,x3,⟨m0,m1⟩,m2,m3⟩:=hB.out.box hW8.nx;have hk8:=hB.out.kpn hW8.nx hW8.rr;have i3:=hk8.now.it.lt;have v3:=hk8.now.nw.lt;have w3:=hk8.now.gv.lt;have c3:z.C3<H8.nx:=by have:=hW8.st.clo.n;omega
  have G3:=hW8.st.clo.g3;replace hW8:=hd hW8;replace hk8:=hd hk8;replace hD8:=hd hD8;replace n8':=hd n8';refine R1.mh λK2 p1 p2 p3 p4=>?_;replace p1:=hd p1;refine zG (qA tyR Sk) λK3 L7=>?_;refine WE.con (Nu G0 o7 Q4 X' H8 iv nv mv F6 items given found6 r6 p nn rl hW8.out.st hk8.out hB.out.I hB.out.nd hB.out.gl hB.out.cc N4 hp hnw.out hky.out) λw' H9 f9⟨hw,hq⟩=>?_;subst hw;obtain⟨F9,r9,found9,hW9,hr9,hP9⟩:=hW8.out.call2 f9 hq;have hL9:=Lp.slip a2.out hP9;have hXP:=hXX.out _ hPX.out;have hP9':H9.get PB=some (.arr [.i .i64 p] 3 0 0):=(f9.get _ hPn8 (hW8.out.kept hXP hPS.out)).trans hP8;have hD9:DfM X' H1 H9 dl:=hD8.out.fr2 f9 λd hd=>hW8.out.kept (hD8.out.2 d hd).1 (by have:=(hD8.out.2 d hd).2.1;omega);have n9:=f9.nx;have n6':H6.nx<=H9.nx:=by have:=n8'.out;omega
  have n56:H5.nx+2<=H9.nx:=aa;have C7:∀q,r9=some q->r6=some q\/H6.nx<=q:=λq hq=>(hr9 q hq).imp id λh=>by have:=n8'.out;omega
  clear hP9 hq hr9;replace hW9:=hd hW9;replace hL9:=hd hL9;replace hD9:=hd hD9;replace C7:=hd C7;replace f9:=hd f9;refine zS tyR ?_;apply L7.out;exact p1.out _ _ ⟨qe,f9.out.mono λq hq=>.inl hq,(F9,r9,found9),λ_=>⟨hW9,hL9,hD9,hP9',n56⟩,λh=>absurd rfl h,λq hq=>hq.elim (λh=>.inl (.inl h)) λh=>(C7.out q h).imp .inr id⟩
 ·rintro s' H6 ⟨a1,a2,a3,a4,a5⟩ n6 hd6 hf6 M6;have g5n:=g5.nx;apply k1.out;have hLe:LpZ z items given f0 s'.2.2 (xp z items given w i rl ps):=Lp.ZR (by have:=a2.out;rw[dD]at this;exact this)
  refine hK.out _ _ X' s'.1 s'.2.1 s'.2.2 (H5.nx::dl) ((Fr.none g5).then hf6 λk hk=>.inr hk) hXX.out a1.out (a3.out.cons (λhh=>by have:=hdlt.out _ hh;omega) (hXn.out _ aa aa) aa aa hd6) hLe ⟨t4,t5,t6,t7,t8,t9,t10,t11,t16,t17,t102,t103,t104,t123,t124,t125,A0,?_⟩;show H5.nx::A.dfr=_;rw[B0]
 rintro e s' H6 I1 h;exact h.elim
def Vx{v:List Int}(hv:∀j,0<=v.getD j 0/\v.getD j 0<=1099511627776):∀ps:List Int,0<=ye v ps/\ye v ps<=ps.length*1099511627776
 |[]=>⟨mT _,by show(0:Int)<=_;simp⟩
 |p::ps=>by have ih:=Vx hv ps;have h:=hv p.toNat;have e:ye v (p::ps)=v.getD p.toNat 0+ye v ps:=rfl;rw[e,List.length_cons];omega
def aab{v:List Int}{lr:List Rl}{K:Int->Int->Int}(G0:gK v lr K){l:List Fx}(hl:cL v lr K l)(j:Nat):0<=(bm v l).getD j 0/\(bm v l).getD j 0<=1099511627776:=by
 by_cases hm:∃y∈l,y.1.toNat=j
 ·obtain⟨y,hy,rfl⟩:=hm;have hyo:=hl.ok y hy;have N6:=hyo.1;rw[ic l v hl.pw y hy aa];have:=(G0.kb y.1 y.2.2.1 (by rw[<-hyo.2.2.1];exact hyo.2.2.2.1)).1;omega
 rw[fG l v j λy hy e=>hm ⟨y,hy,e⟩];exact G0.vb j
def abe{v:List Int}{lr:List Rl}{K:Int->Int->Int}(G0:gK v lr K){l:List Fx}(hl:cL v lr K l){r:Rl}(hr:r∈lr):0<=bL (bm v l) 0 r.2/\bL (bm v l) 0 r.2<=70368744177664:=by have hpl:=G0.pl r hr;have hb:=aab G0 hl;have e:=yO hb r.2 0 (mT _) aa;have h2:=Vx hb r.2;omega
def Wk.frc{z:Sg}{X:Nat->Prop}{H1 H H':Hp}{F:AC}{found:List (List Fx)}{r0 r:Option Nat}(h:Wk z X H1 r0 H F found r)(hF:Fr (SrC z.S r0) H1 H)(f:Fr (SrC z.S r) H H'):Fr (SrC z.S r0) H1 H':=
 hF.then f λ_ hk=>hk.elim (λe=>.inr (.inl e)) λe=>(h.rr _ e).elim (λh=>.inr (.inr h)) .inl
def SlI.step{z:Sg}{X:Nat->Prop}{H1 H H':Hp}{F:AC}{found:List (List Fx)}{r0 r:Option Nat}{u:AC}{l:List Int}(h:SlI H u l)(hW:Wk z X H1 r0 H F found r)(f:Fr (SrC z.S r) H H')(hu:∀k,SrX z.S z.N k->k∉(AV.one u).ids):SlI H' u l:=
 SlC.fr h f λk hk hh=>hu k (hh.imp id λe=>hW.st.rn k e) hk
def ZU{c:Code}(hc:atF Tryz.f102 [1,0,1,1,1,1,1,1,1,1,0,0,1,1,0,0,1,1,1]=some c){z:Sg}(G0:ot z.ld z.lr z.v)(o7:z.c<=3){X0:Nat->Prop}{H1:Hp}{b l:Nat}{iv nv mv F0:AC}{items:List Fx}{given:List Nat}{r0 r1:Option Nat}{f0 found0:List (List Fx)}{H:Hp}{A:ag}{K:ax->ag->Hp->Prop}{dl0:List Nat}
  (hB:Bs z H1 b iv nv mv (l+1) items given r0) (hF0:Fr (SrC z.S r0) H1 H) (hW0:Wk z X0 H1 r0 H F0 found0 r1) (hD0:DfM X0 H1 H dl0) (Q4:xq z l) {w:Option Nat} {i RB:Nat} {rl:Rl} {u1 u102 u103 u104:AC}
  (N4:z.lr[i]?=some rl) (hL0:LpZ z items given f0 found0 (xp z items given w i rl rl.2)) (hu0:SlI H u1 rl.2) (huk:∀k,SrX z.S z.N k->k∉(AV.one u1).ids)
  (hRB:H.get RB=some (.arr [.i .i64 rl.1,u1] 82 0 0)) (hRX:X0 RB) (hRS:RB≠z.S)
  (hs:dk A z.C1 z.C2 z.C3 b (b+1) (b+2) (b+3) (wI w) (lX A i RB (MD A 102 103 104 123 124 125 (u102) (u103) (u104) (u1) (.i .i64 (rl.2.length:Int)) (.i .i64 (0:Int)) 228 dl0)))
  (hK:∀(A2:ag)(H2:Hp)(X':Nat->Prop)(F':AC)(r':Option Nat)(found':List (List Fx))(dl':List Nat),Fr (SrC z.S r0) H1 H2->(∀k,X0 k->X' k)->Wk z X' H1 r0 H2 F' found' r'->DfM X' H1 H2 dl'->LpZ z items given f0 found' (sZ z items given w (i+1))->dk A2 z.C1 z.C2 z.C3 b (b+1) (b+2) (b+3) (wI w) (pF A2 102 103 104 (u102) (u103) (u104) 228 dl')->K .normal A2 H2):R1 E2 none c A H K:=by
 cases hc
 obtain⟨t4,t5,t6,t7,t8,t9,t10,t11,t16,t17,t102,t103,t104,t123,t124,t125,A0,B0⟩:=hs;have hrm:rl∈z.lr:=iY N4;have hpl:=G0.rp.pl rl hrm;have o6:=G0.rp.tr rl hrm;have U1:=G0.vl;have hSn:z.S<H1.nx:=by have h1:=hB.ne;have h2:=hB.n;exact gh λhh=>h1 z.S aa (.inl rfl)
 have hNn:z.N<=H1.nx:=by have:=hB.nb;have:=hB.n;omega
 obtain⟨D3,C5⟩:=abe G0.rp hB.I hrm;replace hB:=hd hB;replace hK:=hd hK;replace huk:=hd huk;replace U1:=hd U1;replace N4:=hd N4;replace hRX:=hd hRX;replace hRS:=hd hRS;refine R1.cR λK1 k1 k2 k3 k4=>?_;refine R1.loop (λm A H2=>∃(j:Nat)(X:Nat->Prop)(F:AC)(r:Option Nat)(found:List (List Fx))(dl:List Nat),m=rl.2.length-j/\j<=rl.2.length/\Hd (Fr (SrC z.S r0) H1 H2)/\Hd (∀k,X0 k->X k)/\Hd (Wk z X H1 r0 H2 F found r)/\Hd (DfM X H1 H2 dl)/\Hd (LpZ z items given f0 found (xp z items given w i rl (rl.2.drop j)))/\Hd (SlI H2 u1 rl.2)/\H2.get RB=some (.arr [.i .i64 rl.1,u1] 82 0 0)/\dk A z.C1 z.C2 z.C3 b (b+1) (b+2) (b+3) (wI w) (lX A i RB (gU A.tm 102 103 104 (u102) (u103) (u104) (px A (u1) rl.2.length j (A.nt=228/\A.dfr=dl))))) ?_ rl.2.length
  ⟨0,X0,F0,r1,found0,dl0,rfl,Nat.zero_le _,hF0,λ_ h=>h,hW0,hD0,by rw[List.drop_zero];exact hL0,hu0,hRB,t4,t5,t6,t7,t8,t9,t10,t11,t16,t17,t102,t103,t104,t123,t124,t125,A0,B0⟩
 clear t4 t5 t6 t7 t8 t9 t10 t11 t16 t17 t102 t103 t104 t123 t124 t125 A0 B0 A hF0 hW0 hD0 hL0 hu0 hRB H;rintro m A H2 ⟨j,X,F,r,found,dl,rfl,hjl,hF,hX0,hW,hD,hL,hu,hRB,t4,t5,t6,t7,t8,t9,t10,t11,t16,t17,t102,t103,t104,t123,t124,t125,A0,B0⟩;refine zW tyR ?_;refine zI tyR (λU4=>?_) (λU4=>?_)
 ·have D0:j<rl.2.length:=aa;have ex:=aO D0;have S0:=List.drop_eq_getElem_cons D0;have Y2:=dK D0;have I0:=cU D0;generalize rl.2[j]=p at ex S0 Y2 I0;have N2:=bw j;have U3:=G0.rp.pr rl hrm p I0;have htl:p<z.ld.length:=by have:=U1.out;omega
  have hL:=hL.out;rw[S0]at hL;obtain⟨idp,gp,offp,cellsp,hu1e,hidp,hgrp,Q0⟩:=hu.out.open aa;obtain⟨d1,d2⟩:=Q0 j p ex;clear Q0 Y2 S0;rw[hu1e]at t123;replace hu1e:=hd hu1e;replace ex:=hd ex;replace hL:=hd hL;replace I0:=hd I0;refine zW tyR ?_;refine R1.ed λK2 q1 q2 q3 q4=>?_;refine zG (qA tyR (ixC D0)) λK5 U0=>?_;apply U0.out;refine R1.gen (λA4 H4=>Gr H2 H4/\H2.nx<H4.nx/\H4.get H2.nx=some (.arr [.i .i64 p] 3 0 0)/\dk A4 z.C1 z.C2 z.C3 b (b+1) (b+2) (b+3) (wI w) (lX A4 i RB (gU A4.tm 102 103 104 (u102) (u103) (u104) (mY A4 H2.nx (px A4 (u1) rl.2.length j (A4.nt=228/\A4.dfr=dl))))))
   ⟨((Fr.refl _).new _).mod _ (.inl (ai _)),aZ _,ao rfl,by rw[hu1e.out];exact zL⟩ ?_
  clear t4 t5 t6 t7 t8 t9 t10 t11 t16 t17 t102 t103 t104 t123 t124 t125 A0 B0 A hidp hgrp d1 d2 U0 K5;rintro A H4 ⟨g4,n4,hPB,t4,t5,t6,t7,t8,t9,t10,t11,t16,t17,t102,t103,t104,t19,t123,t124,t125,A0,B0⟩;obtain⟨PB,hPe⟩:=dZ H2.nx;rw[<-hPe]at n4 hPB t19;have B3:=hW.out.grow g4;have hF4:Fr (SrC z.S r0) H1 H4:=hF.out.gr g4;have hn12:H1.nx<=H2.nx:=hW.out.nx.1;obtain⟨X4,hX4⟩:∃X4,X4=Xp X H2.nx H4.nx:=⟨_,rfl⟩;rw[<-hX4]at B3;have hXX:∀k,X k->X4 k:=λk hk=>by rw[hX4];exact .inl hk
  have hXP:X4 PB:=by rw[hX4];exact .inr ⟨aa,n4⟩
  have hPS:PB≠z.S:=aa;have hD4:DfM X4 H1 H4 dl:=(hD.out.fr2 g4 λ_ _ h=>h).wide hXX;have T6:∀k,X0 k->X4 k:=λk hk=>hXX k (hX0.out k hk);have hu4:SlI H4 u1 rl.2:=SlI.gr hu.out g4;have hRn:RB<H2.nx:=hW.out.st.xn RB (hX0.out RB hRX.out);have hR4:H4.get RB=some (.arr [.i .i64 rl.1,u1] 82 0 0):=(g4.get _ hRn aF).trans hRB;have hRn4:RB<H4.nx:=ay hRn g4.nx;obtain⟨x0,x1,x2,x3,⟨m0,m1⟩,m2,m3⟩:=hB.out.box B3.nx;have hk4:=hB.out.now B3.nx;obtain⟨z7,Q6⟩:=B3.st.own;obtain⟨idv,gv,offv,cellsv,a8,y8,R7,e3,e4⟩:=mD B3.st.dat.now.vi U3.1 U3.2;have W7:=dF items z.v;obtain⟨idn,gn,offn,cellsn,hnve,hidn,hgrn,e5,e6⟩:=mD hk4.nw U3.1 (by rw[W7];exact U3.2);have hpa:p<(bm z.v items).length:=by rw[W7];exact U3.2
  have c1:z.C1<H4.nx:=by have:=B3.st.clo.n;omega
  have G1:=B3.st.clo.g1;have x1':=x1;rw[hnve]at x1';have hS3:=Q6;rw[a8]at hS3;replace B3:=hd B3;replace hF4:=hd hF4;replace hX4:=hd hX4;replace hXX:=hd hXX;replace hXP:=hd hXP;replace hPS:=hd hPS;replace hPe:=hd hPe;replace hD4:=hd hD4;replace T6:=hd T6;replace hu4:=hd hu4;replace hk4:=hd hk4;replace a8:=hd a8;replace hnve:=hd hnve;replace W7:=hd W7;clear x1 Q6;by_cases e:(bm z.v items).getD p.toNat 0=z.v.getD p.toNat 0
  ·have ce:=beq_iff_eq.2 e;replace e:=hd e;refine zG (zDd tyR (ixI U3.1 hpa) (ixI U3.1 U3.2)) λK5 U0=>?_;apply U0.out;refine R1.lp (λA5=>dk A5 z.C1 z.C2 z.C3 b (b+1) (b+2) (b+3) (wI w) (lX A5 i RB (gU A5.tm 102 103 104 (u102) (u103) (u104) (mY A5 PB (px A5 (u1) rl.2.length j (eK A5 140 (.b false) 228 dl)))))) zL ?_;clear t4 t5 t6 t7 t8 t9 t10 t11 t16 t17 t102 t103 t104 t19 t123 t124 t125 A0 B0 A U0 K5;rintro A ⟨t4,t5,t6,t7,t8,t9,t10,t11,t16,t17,t102,t103,t104,t19,t123,t124,t125,t140,A0,B0⟩;refine qX (qA tyR t140) ?_;refine R1.cq ?_;repeat refine R1.aM ?_
   refine R1.eV (λB H=>H=H4/\dk B z.C1 z.C2 z.C3 b (b+1) (b+2) (b+3) (wI w) (lX B i RB (gU B.tm 102 103 104 (u102) (u103) (u104) (mY B PB (px B (u1) rl.2.length j (eK B 147 (.b (decide (l=0/\w=some i))) 228 dl)))))) (λK6 m1 m2 m3=>?_) ?_
   ·by_cases Y4:l=0
    ·have cl:(((l+1:Nat):Int)==1)=true:=by rw[Y4];rfl
     by_cases Z7:w=some i
     ·have cw:((i:Int)==wI w)=true:=by rw[Z7];exact fl _
      have Z1:decide (l=0/\w=some i)=true:=aL ⟨Y4,Z7⟩;rw[Z1]at m1;clear Z1;replace Z7:=hd Z7;replace Y4:=hd Y4;refine zG tyR λK5 U0=>?_;apply U0.out;exact m1.out _ _ ⟨rfl,zL⟩
     have cw:((i:Int)==wI w)=false:=aW λh=>Z7 (by
      cases w with
      |none=>have:(i:Int)=-1:=h;omega
      |some q=>have:(i:Int)=(q:Int):=h;rw[show q=i by omega])
     have Z1:decide (l=0/\w=some i)=false:=aV λh=>Z7 h.2;rw[Z1]at m1;clear Z1;replace Z7:=hd Z7;replace Y4:=hd Y4;refine zG tyR λK5 U0=>?_;apply U0.out;exact m1.out _ _ ⟨rfl,zL⟩
    have cl:(((l+1:Nat):Int)==1)=false:=aW aa;have Z1:decide (l=0/\w=some i)=false:=aV λh=>Y4 h.1;rw[Z1]at m1;clear Z1;replace Y4:=hd Y4;refine zG tyR λK5 U0=>?_;apply U0.out;exact m1.out _ _ ⟨rfl,zL⟩
   clear t4 t5 t6 t7 t8 t9 t10 t11 t16 t17 t102 t103 t104 t19 t123 t124 t125 t140 A0 B0 A;rintro A H9 ⟨rfl,t4,t5,t6,t7,t8,t9,t10,t11,t16,t17,t102,t103,t104,t19,t123,t124,t125,t147,A0,B0⟩;by_cases hT:l=0/\w=some i
   ·rw[aL hT]at t147;obtain⟨Y4,Z7⟩:=hT;subst Z7;have hcc1:items.length+given.length+1=z.c:=by have:=hB.out.cc;omega
    obtain⟨to,hto⟩:∃t,t=z.v.getD p.toNat 0+z.v.getD rl.1.toNat 0-bL (bm z.v items) 0 rl.2:=⟨_,rfl⟩;have b8:=(G0.lad U3.1 U3.2).2;have O6:=(G0.lad o6.1 o6.2).2;have I4:=bZ (z.v.getD p.toNat 0+z.v.getD rl.1.toNat 0);have j5:IntKind.i64.wrap (z.v.getD p.toNat 0+z.v.getD rl.1.toNat 0-bL (bm z.v items) 0 rl.2)=to:=by rw[hto];exact aI aa aa
    rw[<-hnve.out]at x1';obtain⟨idv',gv',offv',cellsv',hvv',_,hgrv',e3',e4'⟩:=mD B3.out.st.dat.now.vi o6.1 o6.2;rw[a8.out]at hvv';cases hvv'
    have Y6:=R7.symm.trans hgrv';cases Y6
    have hpr:=G0.rp.pr rl hrm;have lu4:=hu4.out.lt;have v3:=hk4.out.nw.lt;clear hgrv';replace hto:=hd hto;replace Y4:=hd Y4;replace hcc1:=hd hcc1;replace hpr:=hd hpr;refine qX (qA tyR t147) ?_;refine zO (zDe tyR (ixI U3.1 U3.2) (ixI o6.1 o6.2) uD) λK5 U0=>?_;refine WE.BT (sE _ u1 nv rl.1 rl.2 (bm z.v items) hu4.out hk4.out.nw (by rw[dF];exact hpr.out) aa) λw' H5 g5 hq5=>?_;subst hq5;refine zQ tyR ?_;apply U0.out;have X7:=B3.out.gr g5;have hF5:Fr (SrC z.S r0) H1 H5:=hF4.out.gr g5;have hD5:DfM X4 H1 H5 dl:=hD4.out.fr2 g5 λ_ _ h=>h;have R5:SlI H5 u1 rl.2:=SlI.gr hu4.out g5;have hP5:=(g5.get _ n4 aF).trans hPB;have hR5:=(g5.get _ hRn4 aF).trans hR4;have n5:=ay n4 g5.nx;have hRn5:=ay hRn4 g5.nx;refine R1.lp (λA5=>dk A5 z.C1 z.C2 z.C3 b (b+1) (b+2) (b+3) (wI (some i)) (lX A5 i RB (gU A5.tm 102 103 104 (u102) (u103) (u104) (mY A5 PB (px A5 (u1) rl.2.length j (eK A5 20 (.i .i64 (to:Int)) 228 dl)))))) zL ?_;clear t4 t5 t6 t7 t8 t9 t10 t11 t16 t17 t102 t103 t104 t19 t123 t124 t125 t147 A0 B0 A U0 K5 R7 e3 e4 e3' e4' hS3 z7 G1 c1 x0 x1' x2 x3 m0 m1 m2 m3 lu4 v3 hgrn hidn e5 e6 hPB hR4 n4 hRn4 y8;rintro A ⟨t4,t5,t6,t7,t8,t9,t10,t11,t16,t17,t102,t103,t104,t19,t123,t124,t125,t20,A0,B0⟩;replace hk4:=hk4.out;obtain⟨z7,hS3⟩:=X7.st.own;obtain⟨idv',gv',offv',cellsv',hvv',y8,R7,e3,e4⟩:=mD X7.st.dat.now.vi U3.1 U3.2;obtain⟨idl,gl,offl,cellsl,ul,O7,hidl,hgrl,Z5,f3,f4⟩:=vd X7.st.dat.now.la U3.1 htl;rw[hvv',O7]at hS3;have c1:z.C1<H5.nx:=by have:=X7.st.clo.n;omega
    have G1:=X7.st.clo.g1;obtain⟨x0,x1,x2,x3,⟨m0,m1⟩,m2,m3⟩:=hB.out.box X7.nx;replace X7:=hd X7;replace hF5:=hd hF5;replace hD5:=hd hD5;replace R5:=hd R5;replace hvv':=hd hvv';replace O7:=hd O7;replace Z5:=hd Z5;replace hk4:=hd hk4;have hkb:=Xe U1.out G0.ck G0.vr p to;repeat refine R1.aM ?_
    refine R1.eV (λB H=>Gr H5 H/\dk B z.C1 z.C2 z.C3 b (b+1) (b+2) (b+3) (wI (some i)) (lX B i RB (gU B.tm 102 103 104 (u102) (u103) (u104) (mY B PB (px B (u1) rl.2.length j (kO B 20 192 (.i .i64 (to:Int)) (.b (decide (kF z.ld z.v p to≠0))) 228 dl)))))) (λK6 m1 m2 m3=>?_) ?_
    ·by_cases b1:(1:Int)<=to
     ·by_cases b2:to<=1099511627776
      ·replace hkb:=hd hkb;refine zO (zDe tyR (ixI U3.1 U3.2) (ixI U3.1 htl) yj) λK5 U0=>?_;refine WE.BT (wR G0 H5 p to ul U3.1 U3.2 Z5.out) λw' H6 g6 hq6=>?_;subst hq6;by_cases C4:kF z.ld z.v p to=0
       ·have ck:=beq_iff_eq.2 C4;have Z1:decide (kF z.ld z.v p to≠0)=false:=aV λh=>h C4;rw[Z1]at m1;clear Z1;replace C4:=hd C4;refine zQ tyR ?_;apply U0.out;exact m1.out _ _ ⟨g6,zL⟩
       have ck:(kF z.ld z.v p to==0)=false:=aW C4;have Z1:decide (kF z.ld z.v p to≠0)=true:=aL C4;rw[Z1]at m1;clear Z1;replace C4:=hd C4;refine zQ tyR ?_;apply U0.out;exact m1.out _ _ ⟨g6,zL⟩
      have Z1:decide (kF z.ld z.v p to≠0)=false:=aV λh=>b2 (hkb h).1.2;rw[Z1]at m1;clear Z1;replace hkb:=hd hkb;refine zO tyR λK5 U0=>?_;apply U0.out;exact m1.out _ _ ⟨Fr.refl _,zL⟩
     have Z1:decide (kF z.ld z.v p to≠0)=false:=aV λh=>b1 (hkb h).1.1;rw[Z1]at m1;clear Z1;replace hkb:=hd hkb;refine zO tyR λK5 U0=>?_;apply U0.out;exact m1.out _ _ ⟨Fr.refl _,zL⟩
    clear t4 t5 t6 t7 t8 t9 t10 t11 t16 t17 t102 t103 t104 t19 t123 t124 t125 t20 A0 B0 A z7 hS3 R7 y8 e3 e4 hgrl hidl f3 f4 G1 c1 x0 x1 x2 x3 m0 m1 m2 m3 hkb;rintro A H6 ⟨g6,t4,t5,t6,t7,t8,t9,t10,t11,t16,t17,t102,t103,t104,t19,t123,t124,t125,t20,t192,A0,B0⟩;have hW6:=X7.out.gr g6;have hF6:Fr (SrC z.S r0) H1 H6:=hF5.out.gr g6;have hD6:DfM X4 H1 H6 dl:=hD5.out.fr2 g6 λ_ _ h=>h;have M7:SlI H6 u1 rl.2:=SlI.gr R5.out g6;have hP6:=(g6.get _ n5 aF).trans hP5;have hR6:=(g6.get _ hRn5 aF).trans hR5;have n6:=ay n5 g6.nx;have hRn6:=ay hRn5 g6.nx;clear hP5 hR5 n5 hRn5 Z5;by_cases C4:kF z.ld z.v p to=0
    ·have Z1:decide (kF z.ld z.v p to≠0)=false:=aV λh=>h C4;rw[Z1]at t192;clear Z1;have hL6:LpZ z items given f0 found (xp z items given (some i) i rl (rl.2.drop (j+1))):=Lp.no G0.rp hL.out hcc1.out hrm I0.out (by rw[<-hto.out];exact C4);replace C4:=hd C4;replace hL6:=hd hL6;replace hW6:=hd hW6;replace hF6:=hd hF6;replace hD6:=hd hD6;replace M7:=hd M7;refine qX (qA tyR t192) ?_;refine zW tyR ?_;apply q2.out;refine zW tyR ?_;exact⟨rl.2.length-(j+1),aa,j+1,X4,F,r,found,dl,rfl,D0,hF6,T6,hW6,hD6,hL6,M7,hR6,zL⟩
    have Z1:decide (kF z.ld z.v p to≠0)=true:=aL C4;rw[Z1]at t192;clear Z1;have hk6:=hB.out.kpn hW6.nx hW6.rr;obtain⟨x0,x1,x2,x3,⟨m0,m1⟩,m2,m3⟩:=hB.out.box hW6.nx;have i3:=hk6.now.it.lt;have v3:=hk6.now.nw.lt;have w3:=hk6.now.gv.lt;have c3:z.C3<H6.nx:=by have:=hW6.st.clo.n;omega
    have G3:=hW6.st.clo.g3;replace C4:=hd C4;replace hk6:=hd hk6;replace hW6:=hd hW6;replace hF6:=hd hF6;replace hD6:=hd hD6;replace M7:=hd M7;refine qX (qA tyR t192) ?_;refine zG (qA tyR Sk) λK5 U0=>?_;refine WE.con (Nu G0 o7 Q4 X4 H6 iv nv mv F items given found r p to rl hW6.out.st hk6.out hB.out.I hB.out.nd hB.out.gl hB.out.cc hrm I0.out e.out C4.out) λw' H7 f7⟨hw,hq⟩=>?_;subst hw;obtain⟨F7,r7,found7,hW7,hr7,hP7⟩:=hW6.out.call2 f7 hq;have hL7:=Lp.yes G0.rp hL.out hcc1.out hrm I0.out hto.out hP7;have hF7:=hW6.out.frc hF6.out f7;have hu7:=SlI.step M7.out hW6.out f7 huk.out;have hR7:H7.get RB=some (.arr [.i .i64 rl.1,u1] 82 0 0):=(f7.get _ hRn6 (hW6.out.kept (T6.out RB hRX.out) hRS.out)).trans hR6;have hD7:DfM X4 H1 H7 dl:=hD6.out.fr2 f7 λd hd=>hW6.out.kept (hD6.out.2 d hd).1 (by have:=(hD6.out.2 d hd).2.1;omega);clear hP7 hq hr7;replace hW7:=hd hW7;replace hL7:=hd hL7;replace hF7:=hd hF7;replace hu7:=hd hu7;replace hD7:=hd hD7;replace f7:=hd f7;refine zS tyR ?_;apply U0.out;refine zW tyR ?_;apply q2.out;refine zW tyR ?_;exact⟨rl.2.length-(j+1),aa,j+1,X4,F7,r7,found7,dl,rfl,D0,hF7,T6,hW7,hD7,hL7,hu7,hR7,zL⟩
   rw[aV hT]at t147;replace hT:=hd hT;refine qX (qA tyR t147) ?_;refine R1.cq ?_;refine aba rfl G0 o7 hB.out B3.out hD4.out Q4 hrm I0.out e.out hL.out hPB hXP.out hPS.out ⟨t4,t5,t6,t7,t8,t9,t10,t11,t16,t17,t102,t103,t104,t123,t124,t125,t19,A0,B0⟩ λA2 H5 X5 F5 r5 found5 dl5 f5 hXX5 X7 hD5 hL5 Q1=>?_;clear t147 t4 t5 t6 t7 t8 t9 t10 t11 t16 t17 t102 t103 t104 t19 t123 t124 t125 A0 B0 A;obtain⟨t4,t5,t6,t7,t8,t9,t10,t11,t16,t17,t102,t103,t104,t123,t124,t125,A0,B0⟩:=Q1;have hF5:=B3.out.frc hF4.out f5;have R5:=SlI.step hu4.out B3.out f5 huk.out;have hR5:H5.get RB=some (.arr [.i .i64 rl.1,u1] 82 0 0):=(f5.get _ hRn4 (B3.out.kept (T6.out RB hRX.out) hRS.out)).trans hR4;have hX5:∀k,X0 k->X5 k:=λk hk=>hXX5 k (T6.out k hk);replace hF5:=hd hF5;replace R5:=hd R5;replace hX5:=hd hX5;replace hXX5:=hd hXX5;replace X7:=hd X7;replace hD5:=hd hD5;replace hL5:=hd hL5;replace f5:=hd f5;apply q1.out;refine zW tyR ?_;exact⟨rl.2.length-(j+1),aa,j+1,X5,F5,r5,found5,dl5,rfl,D0,hF5,hX5,X7,hD5,hL5,R5,hR5,zL⟩
  have ce:((bm z.v items).getD p.toNat 0==z.v.getD p.toNat 0)=false:=aW e;have hL5:LpZ z items given f0 found (xp z items given w i rl (rl.2.drop (j+1))):=Lp.had hL.out e;replace hL5:=hd hL5;replace e:=hd e;refine zG (zDd tyR (ixI U3.1 hpa) (ixI U3.1 U3.2)) λK5 U0=>?_;apply U0.out;refine R1.lp (λA5=>dk A5 z.C1 z.C2 z.C3 b (b+1) (b+2) (b+3) (wI w) (lX A5 i RB (gU A5.tm 102 103 104 (u102) (u103) (u104) (px A5 (u1) rl.2.length j (eK A5 140 (.b true) 228 dl))))) zL ?_;clear t4 t5 t6 t7 t8 t9 t10 t11 t16 t17 t102 t103 t104 t19 t123 t124 t125 A0 B0 A U0 K5;rintro A ⟨t4,t5,t6,t7,t8,t9,t10,t11,t16,t17,t102,t103,t104,t123,t124,t125,t140,A0,B0⟩;refine zW tyR ?_;apply q2.out;refine zW tyR ?_;exact⟨rl.2.length-(j+1),aa,j+1,X4,F,r,found,dl,rfl,D0,hF4,T6,B3,hD4,hL5,hu4,hR4,zL⟩
 have hje:j=rl.2.length:=aa;have hLe:LpZ z items given f0 found (sZ z items given w (i+1)):=Lp.close (by have:=hL.out;rw[hje,dD]at this;exact this)
 replace hLe:=hd hLe;clear hje;refine zW tyR ?_;apply k2.out;exact hK.out _ _ X F r found dl hF.out hX0.out hW.out hD.out hLe.out zL
section
variable{S N:Nat}{H H':Hp}{pc pr la vv:AC}{lc:List Cl}{lr:List Rl}{ld:List Lad}{v:List Int}
def SrD.parts(h:SrD S N H pc pr la vv lc lr ld v){i:Nat}{x:Rl}(hi:lr[i]?=some x){id g off:Nat}{cells:List AC}{u:AC}(hpr:pr=.o (.sl id g off lr.length 2))(hr:rowOf (H.get id) g=some cells)(hf:(cells.drop (off+i*2)).take 2=[.i .i64 x.1,u]){k:Nat}(hk:SrX S N k):k∉(AV.one u).ids:=by
 have hx:(H.mod k (.oth (.dfr true))).get k=some (.oth (.dfr true)):=ao rfl;have hF:=h.2 (H.mod k (.oth (.dfr true))) (ai _) λi hi hn=>az λe=>hn (by rw[e];exact hk);have hlen:0<lr.length:=vY (Nat.zero_le _) (List.getElem?_eq_some_iff.1 hi).1;obtain⟨id',g',off',cells',e1,_,T3,Q0⟩:=hF.rl.open hlen;obtain⟨u',hu',y1,_⟩:=Q0 i x hi;rw[hpr]at e1;injection e1 with e1
 injection e1 with e1 e2 e3
 subst e1 e2 e3;by_cases e:id=k
 ·rw[e,hx,sA]at T3;cases T3
 rw[az e,hr]at T3;cases T3
 rw[hf]at y1;injection y1 with _ y1
 injection y1 with y1 _
 subst y1;exact SlC.no (H:=H) hu' hx
end
def ZY{c:Code}(hc:atF Tryz.f102 [1,0,1,1,1,1,1,1,1,1]=some c){z:Sg}(G0:ot z.ld z.lr z.v)(o7:z.c<=3){X0:Nat->Prop}{H1:Hp}{b l:Nat}{iv nv mv F0:AC}{items:List Fx}{given:List Nat}{r0 r1:Option Nat}{f0 found0:List (List Fx)}{H:Hp}{A:ag}{K:ax->ag->Hp->Prop}{dl0:List Nat}
  (hB:Bs z H1 b iv nv mv (l+1) items given r0) (hF0:Fr (SrC z.S r0) H1 H) (hW0:Wk z X0 H1 r0 H F0 found0 r1) (hD0:DfM X0 H1 H dl0) (Q4:xq z l) {w:Option Nat}
  (hL0:LpZ z items given f0 found0 (sZ z items given w 0))
  (hs:dk A z.C1 z.C2 z.C3 b (b+1) (b+2) (b+3) (wI w) (pF A 102 103 104 (z.pr) (.i .i64 (z.lr.length:Int)) (.i .i64 (0:Int)) 228 dl0))
  (hK:∀(A2:ag)(H2:Hp)(X':Nat->Prop)(F':AC)(r':Option Nat)(found':List (List Fx))(dl':List Nat),Fr (SrC z.S r0) H1 H2->(∀k,X0 k->X' k)->Wk z X' H1 r0 H2 F' found' r'->DfM X' H1 H2 dl'->pI z.v z.lr (kF z.ld z.v) z.c z.limit items given f0 found'->A2.dfr=dl'->K .normal A2 H2):R1 E2 none c A H K:=by
 cases hc
 obtain⟨t4,t5,t6,t7,t8,t9,t10,t11,t102,t103,t104,A0,B0⟩:=hs;have hr64:=G0.r64;have hSn:z.S<H1.nx:=by have h1:=hB.ne;have h2:=hB.n;exact gh λhh=>h1 z.S aa (.inl rfl)
 replace hB:=hd hB;replace hK:=hd hK;refine R1.cR λK1 k1 k2 k3 k4=>?_;refine R1.loop (λm A H2=>∃(i:Nat)(X:Nat->Prop)(F:AC)(r:Option Nat)(found:List (List Fx))(dl:List Nat),m=z.lr.length-i/\i<=z.lr.length/\Hd (Fr (SrC z.S r0) H1 H2)/\Hd (∀k,X0 k->X k)/\Hd (Wk z X H1 r0 H2 F found r)/\Hd (DfM X H1 H2 dl)/\Hd (LpZ z items given f0 found (sZ z items given w i))/\dk A z.C1 z.C2 z.C3 b (b+1) (b+2) (b+3) (wI w) (pF A 102 103 104 (z.pr) (.i .i64 (z.lr.length:Int)) (.i .i64 (i:Int)) 228 dl)) ?_ z.lr.length
  ⟨0,X0,F0,r1,found0,dl0,rfl,Nat.zero_le _,hF0,λ_ h=>h,hW0,hD0,hL0,t4,t5,t6,t7,t8,t9,t10,t11,t102,t103,t104,A0,B0⟩
 clear t4 t5 t6 t7 t8 t9 t10 t11 t102 t103 t104 A0 B0 A hF0 hW0 hD0 hL0 H;rintro m A H2 ⟨i,X,F,r,found,dl,rfl,Z4,hF,hX0,hW,hD,hL,t4,t5,t6,t7,t8,t9,t10,t11,t102,t103,t104,A0,B0⟩;refine zW tyR ?_;refine zI tyR (λU4=>?_) (λU4=>?_)
 ·have D0:i<z.lr.length:=aa;have ex:=aO D0;have S0:=List.drop_eq_getElem_cons D0;have Y2:=dK D0;have I0:=cU D0;generalize z.lr[i]=x at ex S0 Y2 I0;have N2:=bw i;have hDn:=hW.out.st.dat;obtain⟨idr,g,off,cells,v8,hid,B2,Q0⟩:=hDn.now.rl.open aa;obtain⟨u1,Y0⟩:=Q0 i x ex;obtain⟨V2,y1,y2,_,_,_,_⟩:=Y0;have huk:∀k,SrX z.S z.N k->k∉(AV.one u1).ids:=λk hk=>hDn.parts ex v8 B2 y1 hk;rw[v8]at t102;clear Q0 Y2 S0;replace v8:=hd v8;replace ex:=hd ex;replace I0:=hd I0;replace huk:=hd huk;replace hDn:=hd hDn;have lu1:=V2.lt;replace V2:=hd V2;refine zW tyR ?_;refine R1.ed λK2 q1 q2 q3 q4=>?_;refine zG (qA tyR (ixC D0)) λK5 U0=>?_;apply U0.out;refine R1.gen (λA4 H4=>Gr H2 H4/\H2.nx<H4.nx/\H4.get H2.nx=some (.arr [.i .i64 x.1,u1] 82 0 0)/\dk A4 z.C1 z.C2 z.C3 b (b+1) (b+2) (b+3) (wI w) (gU A4.tm 102 103 104 (.o (.sl idr g off z.lr.length 2)) (.i .i64 (z.lr.length:Int)) (.i .i64 (i:Int)) (lX A4 i H2.nx (A4.nt=228/\A4.dfr=dl))))
   ⟨((Fr.refl _).new _).mod _ (.inl (ai _)),aZ _,ao rfl,zL⟩ ?_
  clear t4 t5 t6 t7 t8 t9 t10 t11 t102 t103 t104 A0 B0 A hid B2 y1 y2 U0 K5 lu1;rintro A H4 ⟨g4,n4,hRB,t4,t5,t6,t7,t8,t9,t10,t11,t102,t103,t104,t16,t17,A0,B0⟩;rw[<-v8.out]at t102;obtain⟨RB,hRe⟩:=dZ H2.nx;rw[<-hRe]at n4 hRB t17;have B3:=hW.out.grow g4;have hF4:Fr (SrC z.S r0) H1 H4:=hF.out.gr g4;have hn12:H1.nx<=H2.nx:=hW.out.nx.1;obtain⟨X4,hX4⟩:∃X4,X4=Xp X H2.nx H4.nx:=⟨_,rfl⟩;rw[<-hX4]at B3;have hXX:∀k,X k->X4 k:=λk hk=>by rw[hX4];exact .inl hk
  have hXR:X4 RB:=by rw[hX4];exact .inr ⟨aa,n4⟩
  have hRS:RB≠z.S:=aa;have hD4:DfM X4 H1 H4 dl:=(hD.out.fr2 g4 λ_ _ h=>h).wide hXX;have T6:∀k,X0 k->X4 k:=λk hk=>hXX k (hX0.out k hk);have hu4:SlI H4 u1 x.2:=SlI.gr V2.out g4;obtain⟨x0,x1,x2,x3,⟨m0,m1⟩,m2,m3⟩:=hB.out.box B3.nx;have hk4:=hB.out.now B3.nx;have B4:=hk4.gv.look i;have hmv:=hk4.gv.lt;replace B3:=hd B3;replace hF4:=hd hF4;replace hX4:=hd hX4;replace hXX:=hd hXX;replace hXR:=hd hXR;replace hRS:=hd hRS;replace hRe:=hd hRe;replace hD4:=hd hD4;replace T6:=hd T6;replace hk4:=hd hk4;have l1:=hu4.len;have l2:=hu4.lt;replace hu4:=hd hu4;by_cases B6:aaa given w i
  ·repeat refine R1.aM ?_
   refine R1.eV (λB H=>H=H4/\dk B z.C1 z.C2 z.C3 b (b+1) (b+2) (b+3) (wI w) (gU B.tm 102 103 104 (z.pr) (.i .i64 (z.lr.length:Int)) (.i .i64 (i:Int)) (lX B i RB (eK B 121 (.b false) 228 dl)))) (λK6 m1 m2 m3=>?_) ?_
   ·cases w with
    |some n=>
     have X1:i=n:=B6;subst X1;have cw:((i:Int)==wI (some i))=true:=fl _;have cw1:((i:Int) != wI (some i))=false:=by rw[bne,cw];rfl
     replace B6:=hd B6;refine zG (qA tyR jd) λK5 U0=>?_;apply U0.out;exact m1.out _ _ ⟨rfl,zL⟩
    |none=>
     have X1:i∈given:=B6;have cw:((i:Int)==wI none)=false:=aW (by show(i:Int)≠-1;omega);have cw1:((i:Int) != wI none)=true:=by rw[bne,cw];rfl
     have cw2:¬(0:Int)<=wI none:=by show¬(0:Int)<=-1;decide
     rw[aL X1]at B4;replace B6:=hd B6;replace X1:=hd X1;refine zG (qA tyR jd) λK5 U0=>?_;apply U0.out;exact m1.out _ _ ⟨rfl,zL⟩
   clear t4 t5 t6 t7 t8 t9 t10 t11 t102 t103 t104 t16 t17 A0 B0 A;rintro A H9 ⟨rfl,t4,t5,t6,t7,t8,t9,t10,t11,t102,t103,t104,t16,t17,t121,A0,B0⟩;have hLo:LpZ z items given f0 found (xp z items given w i x x.2):=Lp.open hL.out ex.out;replace B6:=hd B6;replace hLo:=hd hLo;refine qX (qA tyR t121) ?_;refine R1.cq ?_;repeat refine R1.aM ?_
   refine zG tyR λK5 U0=>?_;apply U0.out;refine ZU rfl G0 o7 hB.out hF4.out B3.out hD4.out Q4 ex.out hLo.out hu4.out huk.out hRB hXR.out hRS.out (u102:=z.pr) (u103:=.i .i64 (z.lr.length:Int)) (u104:=.i .i64 (i:Int)) zL λA2 H5 X5 F5 r5 found5 dl5 hF5 hXX5 X7 hD5 hL5 Q1=>?_;clear t4 t5 t6 t7 t8 t9 t10 t11 t102 t103 t104 t16 t17 t121 A0 B0 A;obtain⟨t4,t5,t6,t7,t8,t9,t10,t11,t102,t103,t104,A0,B0⟩:=Q1;have hX5:∀k,X0 k->X5 k:=λk hk=>hXX5 k (T6.out k hk);replace hX5:=hd hX5;replace hXX5:=hd hXX5;replace hF5:=hd hF5;replace X7:=hd X7;replace hD5:=hd hD5;replace hL5:=hd hL5;apply q1.out;refine zW tyR ?_;exact⟨z.lr.length-(i+1),aa,i+1,X5,F5,r5,found5,dl5,rfl,D0,hF5,hX5,X7,hD5,hL5,zL⟩
  have hL5:LpZ z items given f0 found (sZ z items given w (i+1)):=Lp.skip hL.out B6;replace hL5:=hd hL5;cases w with
  |some n=>
   have X1:i≠n:=λh=>B6 h;have cw:((i:Int)==wI (some n))=false:=aW (by show(i:Int)≠(n:Int);omega);have cw1:((i:Int) != wI (some n))=true:=by rw[bne,cw];rfl
   have cw2:(0:Int)<=wI (some n):=by show(0:Int)<=(n:Int);omega
   replace B6:=hd B6;replace X1:=hd X1;refine zG (qA tyR jd) λK5 U0=>?_;apply U0.out;refine zW tyR ?_;apply q2.out;refine zW tyR ?_;exact⟨z.lr.length-(i+1),aa,i+1,X4,F,r,found,dl,rfl,D0,hF4,T6,B3,hD4,hL5,zL⟩
  |none=>
   have X1:i∉given:=λh=>B6 h;have cw:((i:Int)==wI none)=false:=aW (by show(i:Int)≠-1;omega);have cw1:((i:Int) != wI none)=true:=by rw[bne,cw];rfl
   have cw2:¬(0:Int)<=wI none:=by show¬(0:Int)<=-1;decide
   rw[aV X1]at B4;replace B6:=hd B6;replace X1:=hd X1;refine zG (qA tyR jd) λK5 U0=>?_;apply U0.out;refine zW tyR ?_;apply q2.out;refine zW tyR ?_;exact⟨z.lr.length-(i+1),aa,i+1,X4,F,r,found,dl,rfl,D0,hF4,T6,B3,hD4,hL5,zL⟩
 have hLe:=Lp.over hL.out (show z.lr.length<=i by omega);replace hLe:=hd hLe;refine zW tyR ?_;apply k2.out;exact hK.out _ _ X F r found dl hF.out hX0.out hW.out hD.out hLe.out B0
def aaI(z:Sg)(items:List Fx)(given:List Nat)(w:Option Nat)(I T:List Fx):Prop:=match w with|none=>sZ z items given none 0 I T|some n=>(∃rest,RD z I T items rest (n::given))\/sZ z items given (some n) 0 I T
def De{z:Sg}(G0:ot z.ld z.lr z.v)(o7:z.c<=3)(W2:z.limit<=100)(C6:KL z.v z.lr (kF z.ld z.v) z.c){left:Nat}(hih:∀l,left=l+1->xq z l):xq z left:=by
 intro X H iv nv mv F items given found r hs hk hI u6 hgl Z2;have Z4:items.length<=3:=aa;replace hI:=hd hI;replace u6:=hd u6;replace hgl:=hd hgl;replace Z2:=hd Z2;replace C6:=hd C6;replace hih:=hd hih;refine Con.of rfl λlg=>?_;have hs:=hs.lg lg;have hk:Kp z (SrC z.S r) ⟨H.t,H.nx,lg⟩ iv nv mv items given:=hk;have e0:H.nx=(⟨H.t,H.nx,lg⟩:Hp).nx:=rfl;rw[e0];clear e0;generalize(⟨H.t,H.nx,lg⟩:Hp)=H at hs hk |-
 refine C1.bdy7 228 [] Tryz.func102 λtm h0 h1 h2 h3 h4 h5 h6=>?_;have hkn:=hk.now;have i3:=hkn.it.lt;have n3:=hkn.nw.lt;have m3:=hkn.gv.lt;replace hkn:=hd hkn;refine zG tyR λK1 Y7=>?_;apply Y7.out;refine R1.gen (λA1 H1=>Gr H H1/\H1.nx=H.nx+4/\H1.get H.nx=some (.arr [iv] 30 0 0)/\H1.get (H.nx+1)=some (.arr [nv] 27 0 0)/\H1.get (H.nx+2)=some (.arr [mv] 194 0 0)/\H1.get (H.nx+3)=some (.arr [.i .i64 (left:Int)] 3 0 0)/\jb A1 z.C1 (wy A1.tm 5 6 7 8 (.o (.ptr z.C2 0 0 1)) (.o (.ptr z.C3 0 0 1)) (.o (.ptr H.nx 0 0 1)) (.o (.ptr (H.nx+1) 0 0 1)) (lV A1 (H.nx+2) (eK A1 10 (.o (.ptr (H.nx+3) 0 0 1)) 228 []))))
  ⟨(((Fr.refl _).new _).new _).new _ |>.new _,rfl,by rw[bu (by show H.nx<H.nx+1+1+1;omega),bu (by show H.nx<H.nx+1+1;omega),bu (by show H.nx<H.nx+1;omega)];exact aJ rfl,
    by rw[bu (by show H.nx+1<H.nx+1+1+1;omega),bu (by show H.nx+1<H.nx+1+1;omega)];exact aJ rfl,by rw[bu (by show H.nx+2<H.nx+1+1+1;omega)];exact aJ rfl,aJ rfl,zL⟩ ?_
 clear h0 h1 h2 h3 h4 h5 h6 tm i3 n3 m3 Y7 K1;rintro A H1 ⟨g1,n1,r0',r1',r2',r3',t4,t5,t6,t7,t8,t9,t10,A0,B0⟩;obtain⟨b,hb⟩:=dZ H.nx;rw[<-hb]at n1 r0' r1' r2' r3' t7 t8 t9 t10;have hB:Bs z H1 b iv nv mv left items given r:=⟨hk.gr g1,r0',r1',r2',r3',aa,λj hj hh=>by
  rcases hh with hh|hh
  ·have:=hs.own.1;omega
  have:=hs.rlt j hh;omega,by have:=hs.clo.n.2;omega,hI.out,u6.out,hgl.out,Z2.out⟩
 have N7:Wk z X H1 r H1 F found r:=⟨Nx.refl _,hs.gr g1,λk hk=>.inl hk⟩;have fin:Hd (∀(e:ax)(A:ag)(H3:Hp)(dl:List Nat)(X':Nat->Prop)(F':AC)(r':Option Nat)(found':List (List Fx)),(e=.normal\/e=.ret)->A.dfr=dl->Fr (SrC z.S r) H1 H3->(∀k,X k->X' k)->Wk z X' H1 r H3 F' found' r'->DfM X' H1 H3 dl->pI z.v z.lr (kF z.ld z.v) z.c z.limit items given found found' ->
   ∃w H4,aH E2 [] (e,A,H3)=.ok [(w,H4)]/\Fr (SrC z.S r) H H4/\∀lg':List Nat,w=.tup []/\FrQ z X H.nx r (pI z.v z.lr (kF z.ld z.v) z.c z.limit items given found) ⟨H4.t,H4.nx,lg'⟩):=λe A H3 dl X' F' r' found' he h1 h2 h3 h4 h5 h6=>by
  obtain⟨H4,c1,c2,c3⟩:=h5.close;have hNb:=hB.nb;have hbn:=hB.n;have hsn:z.S<H.nx:=hs.own.1;have s1:SrS z X' H4 F' found' r':=h4.st.fr c2 λk hk=>⟨(h5.2 k hk).1,by have:=(h5.2 k hk).2.1;omega,by have:=(h5.2 k hk).2.1;omega⟩;have s2:SrS z X H4 F' found' r':=s1.wide hs.xs (λk hk=>by have:=hs.xn k hk;have:=h2.nx;have:=c2.nx;omega) λk hk=>.inl (h3 k hk);refine⟨_,H4,EV he (by rw[h1];exact c1),((Fr.none g1).then h2 λk hk=>.inr hk).then c2 λk hk=>.inl (by have:=(h5.2 k hk).2.1;omega),λlg'=>⟨rfl,F',r',found',s2.lg lg',λk hk=>(h4.rr k hk).imp id λh=>aa,h6⟩⟩
 have hle:=hs.le;have hFk:=hs.ok;have flen:=N7.st.fnd.len;have flt:=N7.st.fnd.lt;obtain⟨z7,Q6⟩:=N7.st.own;have c1:z.C1<H1.nx:=by have:=N7.st.clo.n;omega
 have G1:=N7.st.clo.g1;replace hB:=hd hB;replace N7:=hd N7;replace hb:=hd hb;replace hFk:=hd hFk;replace hs:=hd hs;replace hk:=hd hk;replace g1:=hd g1;clear r0' r1' r2' r3';replace n1:=hd n1;refine R1.scope ?_;repeat refine R1.aM ?_
 refine R1.eV (λB H=>H=H1/\jb B z.C1 (wy B.tm 5 6 7 8 (.o (.ptr z.C2 0 0 1)) (.o (.ptr z.C3 0 0 1)) (.o (.ptr b 0 0 1)) (.o (.ptr (b+1) 0 0 1)) (lV B (b+2) (kO B 10 38 (.o (.ptr (b+3) 0 0 1)) (.b (decide (z.limit≠0/\z.limit<found.length))) 228 [])))) (λK6 m1 m2 m3=>?_) ?_
 ·by_cases l0:z.limit=0
  ·have c0:¬(0:Int)<(z.limit:Int):=aa;have Z1:decide (z.limit≠0/\z.limit<found.length)=false:=aV λh=>h.1 l0;rw[Z1]at m1;clear Z1;replace l0:=hd l0;refine zG tyR λK5 U0=>?_;apply U0.out;exact m1.out _ _ ⟨rfl,zL⟩
  have c0:(0:Int)<(z.limit:Int):=aa;by_cases l1:z.limit<found.length
  ·have c2:(z.limit:Int)<(found.length:Int):=aa;have Z1:decide (z.limit≠0/\z.limit<found.length)=true:=aL ⟨l0,l1⟩;rw[Z1]at m1;clear Z1;replace l0:=hd l0;replace l1:=hd l1;refine zG tyR λK5 U0=>?_;apply U0.out;exact m1.out _ _ ⟨rfl,zL⟩
  have c2:¬(z.limit:Int)<(found.length:Int):=aa;have Z1:decide (z.limit≠0/\z.limit<found.length)=false:=aV λh=>l1 h.2;rw[Z1]at m1;clear Z1;replace l0:=hd l0;replace l1:=hd l1;refine zG tyR λK5 U0=>?_;apply U0.out;exact m1.out _ _ ⟨rfl,zL⟩
 clear t4 t5 t6 t7 t8 t9 t10 A0 B0 A;rintro A H9 ⟨rfl,t4,t5,t6,t7,t8,t9,t10,t38,A0,B0⟩;by_cases U6:z.limit≠0/\z.limit<found.length
 ·rw[aL U6]at t38;have hL:=Lp.full (items:=items) (given:=given) (due:=λ_ _=>False) hFk.out hle U6.1 U6.2;replace U6:=hd U6;replace hL:=hd hL;refine qX (qA tyR t38) ?_;refine zW tyR ?_;exact fin.out _ _ _ [] X F r found (.inr rfl) qe (Fr.refl _) (λ_ h=>h) N7.out DfM.nil hL.out
 rw[aV U6]at t38;have hl2:z.limit=0\/found.length<=z.limit:=gh λh=>U6 ⟨λe=>h (.inl e),aa⟩;replace U6:=hd U6;replace hl2:=hd hl2;have p1:=N7.out.st.dat.now.rl.len;have p3:=N7.out.st.dat.now.rl.lt;refine qX (qA tyR t38) ?_;refine R1.cq ?_;refine zW tyR ?_;refine R1.FX ?_;refine zW tyR ?_;refine R1.seq (srch (rn:=none) rfl G0 hB.out N7.out zL λA2 H2 w g2 hw F2=>?_);show R1 E2 none _ A2 H2 _;clear t4 t5 t6 t7 t8 t9 t10 t38 A0 B0 A flen flt z7 Q6 c1 G1 p1 p3;obtain⟨t4,t5,t6,t7,t8,t9,t10,t11,A0,B0⟩:=F2;have X3:=Lp.start (v:=z.v) (lr:=z.lr) (K:=kF z.ld z.v) (items:=items) (given:=given) hFk.out hle;have hF2:Fr (SrC z.S r) H9 H2:=Fr.none g2;have hW2:=N7.out.gr g2;replace X3:=hd X3;replace hF2:=hd hF2;refine R1.eV (λB H3=>∃(F':AC)(r':Option Nat)(found':List (List Fx)),Hd (Fr (SrC z.S r) H9 H3)/\Hd (Wk z X H9 r H3 F' found' r')/\Hd (LpZ z items given found found' λI T=>items.length+given.length+1<=z.c/\aaI z items given w I T)/\dk B z.C1 z.C2 z.C3 b (b+1) (b+2) (b+3) (wI w) (B.nt=228/\B.dfr=[])) (λK6 m1 m2 m3=>?_) ?_
 ·cases w with
  |some n=>
   have cw:¬wI (some n)<0:=by show¬(n:Int)<0;omega
   obtain⟨hg,rl,N4,I1⟩:=hw;have hL:=Lp.VO G0.rp X3.out N4 hg I1;replace hL:=ah hL;replace hg:=hd hg;replace N4:=hd N4;replace I1:=hd I1;replace hW2:=hd hW2;refine zW tyR ?_;exact m1.out _ _ ⟨F,r,found,hF2,hW2,hL,zL⟩
  |none=>
   have cw:wI none<0:=by show(-1:Int)<0;decide
   have R3:=hB.out.now hW2.nx;obtain⟨x0,x1,x2,x3,⟨q0,q1⟩,q2,q3⟩:=hB.out.box hW2.nx;have i3:=R3.it.lt;have v3:=R3.nw.lt;have c1:z.C1<H2.nx:=by have:=hW2.st.clo.n;omega
   have G1:=hW2.st.clo.g1;replace R3:=hd R3;replace hW2:=hd hW2;replace hw:=hd hw;refine zW tyR ?_;refine zG (qA tyR Wq) λK5 U0=>?_;have F2:=hW2.out.st;refine WE.con (VE G0 H2 z.S z.N z.pc z.pr z.la z.vv F iv nv z.lc z.c z.limit found r items F2.own F2.dat F2.xs F2.xn F2.fnd R3.out.it R3.out.nw hI.out Z4 o7 W2 hFk.out hl2.out) λw' H3 f3⟨Q2,hq⟩=>?_;subst Q2;obtain⟨F3,r3,found3,hW3,hP3⟩:=hW2.out.call f3 (F2.took f3 hq λf hf=>⟨hf.ok,hf.le⟩);have hL:=Lp.right G0.rp C6.out hw.out hP3;have hF3:=hW2.out.frc hF2.out f3;replace hL:=ah hL;clear hq F2 hP3;replace hW3:=hd hW3;replace hF3:=hd hF3;replace f3:=hd f3;refine zS tyR ?_;apply U0.out;exact m1.out _ _ ⟨F3,r3,found3,hF3,hW3,hL,zL⟩
 clear t4 t5 t6 t7 t8 t9 t10 t11 A0 B0 A2 X3 hF2 hW2;rintro A H3 ⟨F3,r3,found3,hF3,hW3,hL3,t4,t5,t6,t7,t8,t9,t10,t11,A0,B0⟩;obtain⟨x0,x1,x2,x3,⟨q0,q1⟩,q2,q3⟩:=hB.out.box hW3.out.nx;cases left with
 |zero=>have cl:(((0:Nat):Int)==0)=true:=rfl;have hL:=Lp.aaW hL3.out (by have:=Z2.out;omega);replace hL:=hd hL;refine zW tyR ?_;exact fin.out _ _ _ [] X F3 r3 found3 (.inr rfl) qe hF3.out (λ_ h=>h) hW3.out DfM.nil hL.out
 |succ l=>
  have cl:(((l+1:Nat):Int)==0)=false:=aW aa;have Q4:=hih.out l rfl;have hL4:LpZ z items given found found3 (aaI z items given w):=Lp.aaX hL3.out;replace hL4:=hd hL4;refine R1.eV (λB H=>H=H3/\dk B z.C1 z.C2 z.C3 b (b+1) (b+2) (b+3) (wI w) (B.nt=228/\B.dfr=[])) (λK6 m1 m2 m3=>?_) ?_
  ·refine zW tyR ?_;exact m1.out _ _ ⟨rfl,zL⟩
  clear t4 t5 t6 t7 t8 t9 t10 t11 A0 B0 A;rintro A H8 ⟨rfl,t4,t5,t6,t7,t8,t9,t10,t11,A0,B0⟩;refine R1.eV (λB H4=>∃(F':AC)(r':Option Nat)(found':List (List Fx)),Hd (Fr (SrC z.S r) H9 H4)/\Hd (Wk z X H9 r H4 F' found' r')/\Hd (LpZ z items given found found' (sZ z items given w 0))/\dk B z.C1 z.C2 z.C3 b (b+1) (b+2) (b+3) (wI w) (B.nt=228/\B.dfr=[])) (λK6 m1 m2 m3=>?_) ?_
  ·cases w with
   |none=>
    have cw:¬(0:Int)<=wI none:=by show¬(0:Int)<=-1;decide
    refine zW tyR ?_;exact m1.out _ _ ⟨F3,r3,found3,hF3,hW3,hL4,zL⟩
   |some n=>
    have cw:(0:Int)<=wI (some n):=by show(0:Int)<=(n:Int);omega
    obtain⟨hg,rl,N4,I1⟩:=hw;have hnl:=(List.getElem?_eq_some_iff.1 N4).1;replace hg:=hd hg;replace N4:=hd N4;replace I1:=hd I1;refine zG tyR λK5 U0=>?_;apply U0.out;refine R1.lp (λA5=>dk A5 z.C1 z.C2 z.C3 b (b+1) (b+2) (b+3) (wI (some n)) (eK A5 79 (.b true) 228 [])) zL ?_;clear t4 t5 t6 t7 t8 t9 t10 t11 A0 B0 A U0 K5;rintro A ⟨t4,t5,t6,t7,t8,t9,t10,t11,t79,A0,B0⟩;refine qX (qA tyR t79) ?_;refine aaY rfl o7 hB.out hW3.out Q4 hg.out hnl hL4.out ⟨t4,t5,t6,t7,t8,t9,t10,t11,A0,B0⟩ λA2 H4 F4 r4 found4 f4 B3 hL5 O3=>?_;obtain⟨t4,t5,t6,t7,t8,t9,t10,t11,A0,B0⟩:=O3;have hF4:=hW3.out.frc hF3.out f4;exact m1.out _ _ ⟨F4,r4,found4,hF4,B3,hL5,t4,t5,t6,t7,t8,t9,t10,t11,A0,B0⟩
  clear t4 t5 t6 t7 t8 t9 t10 t11 A0 B0 A hL3 hL4 x0 x1 x2 x3 q0 q1 q2 q3;rintro A H4 ⟨F4,r4,found4,hF4,B3,hL5,t4,t5,t6,t7,t8,t9,t10,t11,A0,B0⟩;have p1:=B3.out.st.dat.now.rl.len;have p3:=B3.out.st.dat.now.rl.lt;have c1:z.C1<H4.nx:=by have:=B3.out.st.clo.n;omega
  have G1:=B3.out.st.clo.g1;obtain⟨z7,Q6⟩:=B3.out.st.own;refine zW tyR ?_;exact ZY rfl G0 o7 hB.out hF4.out B3.out DfM.nil Q4 hL5.out zL λA2 H5 X5 F5 r5 found5 dl5 hF5 hXX5 X7 hD5 hP5 hdf5=>fin.out _ A2 H5 dl5 X5 F5 r5 found5 (.inl rfl) hdf5 hF5 hXX5 X7 hD5 hP5
def Ip{z:Sg}(G0:ot z.ld z.lr z.v)(o7:z.c<=3)(W2:z.limit<=100)(C6:KL z.v z.lr (kF z.ld z.v) z.c):∀left,xq z left
 |0=>De G0 o7 W2 C6 λl h=>aa
 |l+1=>De G0 o7 W2 C6 λk h=>by have:k=l:=aa;subst this;exact Ip G0 o7 W2 C6 k
def SrD.up{S N N':Nat}{H:Hp}{pc pr la vv:AC}{lc:List Cl}{lr:List Rl}{ld:List Lad}{v:List Int}(h:SrD S N H pc pr la vv lc lr ld v)(hn:N<=N')(hx:N'<=H.nx):SrD S N' H pc pr la vv lc lr ld v:=
 ⟨hx,λH' h1 h2=>h.2 H' h1 λi hi hh=>h2 i hi λhk=>hh (hk.imp id (aD hn))⟩
def Sol.way{v:List Int}{lr:List Rl}{K:Int->Int->Int}{c limit:Nat}{found found':List (List Fx)}(h:pI v lr K c limit [] [] found found'){f:List Fx}(hf:Sol v lr K c f):Got limit found' f:=by obtain⟨I,T,h1,h2,h3,h4,h5⟩:=hf;exact(h.go I T I f ⟨h1,h2,h3,wa _,List.nodup_nil,λ_ h=>absurd h List.not_mem_nil⟩ h5 h4).resolve_right id
def aaz(n0 S:Nat)(pc pr la vv:AC)(ld:List Lad)(lr:List Rl)(v:List Int)(c limit:Nat)(H':Hp):Prop:=
 ∃F' r' found',SrR H' S pc pr la vv F' c limit/\Fnd (λk=>k=S) H' F' found' r'/\(∀k,r'=some k->n0<=k)/\FOk v lr (kF ld v) c limit found'/\found'.length<=limit+1/\∀f,Sol v lr (kF ld v) c f->Got limit found' f
def Yd{ld:List Lad}{lr:List Rl}{v:List Int}(G0:ot ld lr v){c limit:Nat}(o7:c<=3)(W2:limit<=100)(C6:KL v lr (kF ld v) c)(H:Hp)(S:Nat)(pc pr la vv:AC)(lc:List Cl)
  (hS:SrR H S pc pr la vv (.o .nilS) c limit) (hD:SrD S H.nx H pc pr la vv lc lr ld v):
  Con E2 51 [.one (.o (.ptr S 0 0 7))] H (λk=>k=S) λq H'=>q=.tup []/\aaz H.nx S pc pr la vv ld lr v c limit H':=by
 replace C6:=hd C6;refine Con.hdb2 (λH=>SrR H S pc pr la vv (.o .nilS) c limit) hS (λH=>SrD S H.nx H pc pr la vv lc lr ld v) hD λH e hS hD=>?_;rw[<-e];clear e;refine C1.jf 16 [] Tryz.func51 λtm h0=>?_;replace hD:=hd hD;obtain⟨z7,Q6⟩:=id hS;replace hS:=hd hS;refine zW (zDd tyR aai aah) ?_;refine R1.gen (λA3 H3=>Gr H H3/\H3.nx=H.nx+3/\H3.get H.nx=some (.arr [.o (.ptr S 0 0 7)] 127 0 0)/\H3.get (H.nx+1)=some (.arr [.o (.clo 102 [(H.nx,0,0,1),(H.nx+1,0,0,1),(H.nx+1+1,0,0,1)])] 193 0 0) /\
   H3.get (H.nx+1+1)=some (.arr [.o (.clo 100 [(H.nx+1,0,0,1),(H.nx,0,0,1)])] 196 0 0)/\slot A3.tm 1=.one (.o (.ptr H.nx 0 0 1))/\mW A3 (H.nx+1) (H.nx+1+1) (A3.nt=16/\A3.dfr=[]))
  ⟨(((((Fr.refl _).new _).new _).new _).mod _ (.inl aa)).mod _ (.inl aa),rfl,
    by rw[az aa,az aa,bu (by show H.nx<H.nx+1+1;omega),bu (by show H.nx<H.nx+1;omega)];exact aJ rfl,ao rfl,by rw[az aa];exact ao rfl,zL⟩ ?_
 clear h0 tm Q6;rintro A3 H3 ⟨g3,n3,G1,G2,G3,t1,t2,t3,A0,B0⟩;have hS3:=hS.out.gr g3;have hD3:SrD S (H.nx+3) H3 pc pr la vv lc lr ld v:=(hD.out.gr g3).up aa aa;obtain⟨z,hz⟩:∃z:Sg,z=⟨S,H.nx+3,H.nx,H.nx+1,H.nx+1+1,pc,pr,la,vv,lc,ld,lr,v,c,limit⟩:=⟨_,rfl⟩;have hs:SrS ⟨S,H.nx+3,H.nx,H.nx+1,H.nx+1+1,pc,pr,la,vv,lc,ld,lr,v,c,limit⟩ (λk=>k=S) H3 (.o .nilS) [] none:=
  ⟨hS3,hD3,Fnd.nil,rfl,λk(hk:k=S)=>by rw[hk];exact hS3.1,λk hk=>by (cases hk),⟨⟨⟨by show H.nx<H.nx+3;omega,by show H.nx+1<H.nx+3;omega,by show H.nx+1+1<H.nx+3;omega⟩,by show H.nx+3<=H3.nx;omega⟩,⟨by show H.nx≠S;omega,by show H.nx+1≠S;omega,by show H.nx+1+1≠S;omega⟩,G1,G2,G3⟩,FOk.nil,Nat.zero_le _⟩
 have hk:Kp ⟨S,H.nx+3,H.nx,H.nx+1,H.nx+1+1,pc,pr,la,vv,lc,ld,lr,v,c,limit⟩ (SrC S none) H3 (.o .nilS) vv (.o .nilM) [] []:=λH' n g=>⟨SlF.nil,(hD3.2 H' n λi hi hx=>g i hi λhh=>hh.elim (λe=>hx (.inl e)) λe=>by cases e).vi,.inl ⟨rfl,rfl⟩⟩;have hfc:=Ip (z:=⟨S,H.nx+3,H.nx,H.nx+1,H.nx+1+1,pc,pr,la,vv,lc,ld,lr,v,c,limit⟩) G0 o7 W2 C6.out c (λk=>k=S) H3 (.o .nilS) vv (.o .nilM) (.o .nilS) [] [] [] none hs hk ⟨λ_ h=>absurd h List.not_mem_nil,List.Pairwise.nil⟩ List.nodup_nil (λ_ h=>absurd h List.not_mem_nil) (Nat.zero_add c);obtain⟨hS4,hS5⟩:=hS3;have q1:H.nx<H3.nx:=aa;have q2:H.nx+1<H3.nx:=aa;have lv:=hD3.now.vi.lt;clear hz z;replace hfc:=hd hfc;replace hs:=hd hs;replace hk:=hd hk;replace hD3:=hd hD3;replace n3:=hd n3;refine zG (qA tyR EM) λK1 Y7=>?_;refine WE.con hfc.out λw' H4 f4⟨hw,hq⟩=>?_;subst hw;have hf:Fr (λk=>k=S) H H4:=(Fr.none g3).then f4 λk hk=>hk.elim .inr λe=>by cases e
 have hQ:∀lg':List Nat,aaz H.nx S pc pr la vv ld lr v c limit ⟨H4.t,H4.nx,lg'⟩:=λlg'=>by obtain⟨F',r',found',s1,s2,s3⟩:=hq.lg lg';exact⟨F',r',found',s1.own,s1.fnd,λk hk=>(s2 k hk).elim (λh=>by cases h) λh=>by have:=n3.out;omega,s1.ok,s1.le,λf hf=>Sol.way s3 hf⟩
 clear hq f4;replace hf:=hd hf;replace hQ:=hd hQ;refine zS tyR ?_;apply Y7.out;exact⟨_,_,bp (.inl rfl) qe,hf.out,λlg'=>⟨rfl,hQ.out lg'⟩⟩
def Ab{s:List UInt8}{u:AC}:EZ [.o (.str s),u]=(AV.one u).ids:=by simp[EZ,AV.ids,AC.ids,AO.ids]
def uS:FrR uj:=λY H H' c x⟨u,h1,h2⟩hf hy=>⟨u,h1,SlC.fr h2 hf λk hk=>hy k (by rw[h1,Ab];exact hk)⟩
def vo:LtR uj:=λH c x⟨u,h1,h2⟩k hk=>by rw[h1,Ab]at hk;exact h2.lt k hk
def Eu{H:Hp}{u:AC}{us:List Pr}(h:SlP H u us)(I1:us≠[]){k lo gen:Nat}{cells:List AC}{e:TypeId}(hk:H.get k=some (.arr cells e lo gen))(hc:∀i s f,cells[i]?=some (.o (.str s))->cells[i+1]?=some (.i .i64 f)->False):k∉(AV.one u).ids:=by
 rcases h.2 with⟨rfl,_⟩|⟨id,g,off,rfl,_,cs,hr,h1,h2⟩
 ·exactλh=>by cases h
 intro hm;rw[List.mem_singleton.1 hm]at hk;rw[hk]at hr;have W3:cs=cells:=by
  have O0:(if lo<=g/\g<=gen then some cells else none)=some cs:=hr;by_cases q:lo<=g/\g<=gen
  ·rw[ad q]at O0;exact(dX O0).symm
  rw[ab q]at O0;cases O0
 subst W3;cases us with
 |nil=>exact I1 rfl
 |cons x l=>
  have e2:(List.flatMap prC (x::l))=.o (.str x.1)::.i .i64 x.2::List.flatMap prC l:=rfl;rw[e2]at h2;refine hc off x.1 x.2 ?_ ?_
  ·have:=congrArg (λq=>q[0]?) h2;rw[List.length_cons]at this;simp only[List.getElem?_cons_zero]at this;rw[sP aa,gS,Nat.add_zero]at this;exact this
  have:=congrArg (λq=>q[1]?) h2;rw[List.length_cons]at this;simp only[List.getElem?_cons_succ,List.getElem?_cons_zero]at this;rw[sP aa,gS]at this;exact this
def ldC(ls:List Lad)(lc:List Cl):List Lad:=lc.map λy=>ca (some ls) y.2.2.1
def yw(ls:List Lad)(lc:List Cl):(ldC ls lc).length=lc.length:=cT ..
def XJ{X:Nat->Prop}{H:Hp}{v:AC}{l:List Lad}{r:Option Nat}{e:TypeId}(h:om uj 2 e X H v l r){u:AC}{us:List Pr}(hu:SlP H u us)(I1:us≠[]):∀k∈(AV.one u).ids,some k≠r:=λk hk hr=>by
 obtain⟨css,a,b⟩:=h.own;rcases a with⟨_,_,_,e'⟩|⟨id,lo,gen,e1,_,e2,_⟩
 ·rw[e']at hr;cases hr
 rw[e1]at hr;cases hr
 refine Eu hu I1 e2 (λi s f h1 h2=>?_) hk;have key:∀{css:List (List AC)}{l:List Lad},Al (λc x=>c.length=2/\uj H c x/\∀id∈EZ c,¬X id/\some id≠r) css l->∀q∈css.flatMap id,∃o,q=.o o:=λ{css}=>by
  induction css with
  |nil=>intro l _ q hq;cases hq
  |cons c css ih=>
   intro l hl q hq;cases l with
   |nil=>exact hl.elim
   |cons y l=>
    rw[List.flatMap_cons]at hq;rcases List.mem_append.1 hq with hq|hq
    ·obtain⟨_,⟨w,hw,N2⟩,_⟩:=hl.1;have hq':q∈[AC.o (.str y.1),w]:=by rw[<-hw];exact hq
     rcases List.mem_cons.1 hq' with hq'|hq'
     ·exact⟨_,hq'⟩
     rw[List.mem_singleton.1 hq'];rcases N2.2 with⟨h,_⟩|⟨_,_,_,h,_⟩<;>exact⟨_,h⟩
    exact ih hl.2 q hq
 obtain⟨o,ho⟩:=key b _ (iY h2);cases ho
def SlC.Ov{H:Hp}{v:AC}{sz n:Nat}{c:List AC}(h:SlC H v sz n c)(s:List UInt8):v≠.o (.str s):=λe=>by rcases h.2 with⟨h,_⟩|⟨_,_,_,h,_⟩<;>(rw[e]at h;cases h)
def aaV{c:Code}(hc:atF Tryz.f24 [1,1,0,1]=some c){k a b w:AC}{ls:List Lad}{lc:List Cl}{lr:List Rl}{v:List Int}{B limit:Nat}{H H1:Hp}{A:ag}{K:ax->ag->Hp->Prop}{S:Nat}
  (hk:cM H k (some ls)) (hL:∀x∈ls,x.2.length<=1000000) (ha:fJ H a lc) (hb:fu H b lr) (hw:SlI H w v) (hC:lc.length<=64) (N0:∀y∈lc,aR (ca (some ls) y.2.2.1).1 (ca (some ls) y.2.2.1).2=0)
  (hS:H.nx<=S) (g1:Gr H H1) (n1:S<H1.nx) (V0:H1.get S=some (.arr [a,b,.o .nilS,w,.i .i64 0,.i .i64 (limit:Int),.o .nilS] 129 0 0))
  (hs:slot A.tm 0=.one (k)/\dw A B (kh A S (pF A 22 23 24 (a) (.i .i64 (lc.length:Int)) (.i .i64 (0:Int)) 74 [])))
  (hK:∀(A2:ag)(H2:Hp)(la:AC)(r:Option Nat),Gr H H2->S<H2.nx->H2.get S=some (.arr [a,b,la,w,.i .i64 0,.i .i64 (limit:Int),.o .nilS] 129 0 0)->om uj 2 51 (λk=>k=S) H2 la (ldC ls lc) r->dw A2 B (kh A2 S (A2.nt=74/\A2.dfr=[]))->K .normal A2 H2):R1 E2 none c A H1 K:=by
 cases hc
 obtain⟨t0,t3,t11,t22,t23,t24,A0,B0⟩:=hs;replace hK:=hd hK;replace hb:=hd hb;replace hw:=hd hw;refine R1.cR λK1 k1 k2 k3 k4=>?_;refine R1.loop (λm A H2=>∃(i:Nat)(la:AC)(r:Option Nat),m=lc.length-i/\i<=lc.length/\Gr H H2/\S<H2.nx/\H2.get S=some (.arr [a,b,la,w,.i .i64 0,.i .i64 (limit:Int),.o .nilS] 129 0 0)/\Hd (om uj 2 51 (λk=>k=S) H2 la ((ldC ls lc).take i) r)/\Hd (∀q,r=some q->H.nx<=q)/\slot A.tm 0=.one (k)/\dw A B (kh A S (slot A.tm 22=.one (a)/\py A lc.length i (A.nt=74/\A.dfr=[])))) ?_ lc.length
  ⟨0,.o .nilS,none,rfl,Nat.zero_le _,g1,n1,V0,om.nil,(λq hq=>(by cases hq):∀q,(none:Option Nat)=some q->H.nx<=q),t0,t3,t11,t22,t23,t24,A0,B0⟩
 clear t0 t3 t11 t22 t23 t24 A0 B0 A g1 n1 V0 H1;rintro m A H2 ⟨i,la,r,rfl,Z4,g2,n2,V0,ho,hr,t0,t3,t11,t22,t23,t24,A0,B0⟩;refine zW tyR ?_;refine zI tyR (λU4=>?_) (λU4=>?_)
 ·have D0:i<lc.length:=aa;have ex:=aO D0;have S0:=List.drop_eq_getElem_cons D0;have Y2:=dK D0;have I0:=cU D0;generalize lc[i]=y at ex S0 Y2 I0;have N2:=bw i;have ha2:=ha.gr g2;obtain⟨id,g,off,cells,hae,hid,B2,Q0⟩:=ha2.open aa;obtain⟨p,q,hx⟩:=Q0 i y ex;have y1:=hx.all;have y2:=hx.le;have hcy:=N0 y I0;have hlp:=abq H2 [.i .i64 y.1,.o (.str y.2.1),.o (.str y.2.2.1),p,q] y ⟨p,q,rfl,hx.of1,hx.of2⟩;have lp:ltV (.one p) H2.nx:=λj hj=>hlp j (by simp[EZ,AV.ids,AC.ids,AO.ids]at hj |-;exact .inl hj);have lq:ltV (.one q) H2.nx:=λj hj=>hlp j (by simp[EZ,AV.ids,AC.ids,AO.ids]at hj |-;exact .inr hj);rw[hae]at t22;clear Q0 hx hlp Y2 I0 S0;replace hae:=hd hae;replace ex:=hd ex;replace hcy:=hd hcy;refine zW tyR ?_;refine R1.ed λK2 q1 q2 q3 q4=>?_;refine zG (qA tyR (ixC D0)) λK5 U0=>?_;apply U0.out;refine R1.gen (λA4 H4=>Gr H2 H4/\H2.nx<H4.nx/\H4.get H2.nx=some (.arr [.i .i64 y.1,.o (.str y.2.1),.o (.str y.2.2.1),p,q] 58 0 0)/\slot A4.tm 0=.one (k)/\dw A4 B (kh A4 S (ko A4.tm 13 22 (.o (.ptr H2.nx 0 0 5)) (a) (py A4 lc.length i (A4.nt=74/\A4.dfr=[])))))
   ⟨((Fr.refl _).new _).mod _ (.inl (ai _)),aZ _,ao rfl,by rw[hae.out];exact zL⟩ ?_
  clear t0 t3 t11 t22 t23 t24 A0 B0 A hid B2 y1 y2 U0 K5 lp lq;rintro A H4 ⟨g4,n4,rM,t0,t3,t11,t13,t22,t23,t24,A0,B0⟩;refine zG (qA tyR nj) λK5 U0=>?_;refine WE.con (lC H4 k (some ls) y.2.2.1 (hk.gr (g2.gr g4)) (λls' h=>by cases h;exact hL)) λw' H5 g5⟨c,Q2,hc,W0⟩=>?_;subst Q2;obtain⟨u,rfl,hu⟩:=hc.of;clear W0 hc;have lu:=hu.lt;refine zS tyR ?_;apply U0.out;refine R1.gen (λA5 H6=>Gr H5 H6/\H5.nx<H6.nx/\H6.get H5.nx=some (.arr [.o (.str (ca (some ls) y.2.2.1).1),u] 51 0 0)/\slot A5.tm 0=.one (k)/\dw A5 B (kh A5 S (ko A5.tm 14 22 (.o (.ptr H5.nx 0 0 2)) (a) (py A5 lc.length i (A5.nt=74/\A5.dfr=[])))))
   ⟨((Fr.refl _).new _).mod _ (.inl (ai _)),aZ _,ao rfl,zL⟩ ?_
  clear t0 t3 t11 t13 t22 t23 t24 A0 B0 A U0 K5 lu;rintro A H6 ⟨g6,n6,rL,t0,t3,t11,t14,t22,t23,t24,A0,B0⟩;have g26:Gr H2 H6:=g4.gr (g5.gr g6);have g06:Gr H H6:=g2.gr g26;have M7:SlP H6 u (ca (some ls) y.2.2.1).2:=hu.gr g6;obtain⟨hrow6,n26⟩:=bq g26 n2 V0;have ho6:=ho.out.gr uS vo g26;have I1:(ca (some ls) y.2.2.1).2≠[]:=λe=>by obtain⟨x,l,h,_⟩:=gj hcy.out;rw[e]at h;cases h
  have hlad:∀s,la≠.o (.str s):=λs=>by obtain⟨_,hc,_⟩:=ho6.slr;exact SlC.Ov (H:=H6) hc s
  have hwd:∀s,w≠.o (.str s):=λs=>SlC.Ov (H:=H) hw.out s;have had:∀s,a≠.o (.str s):=λs=>by obtain⟨_,hc,_⟩:=ha;exact SlC.Ov (H:=H) hc s
  have hbd:∀s,b≠.o (.str s):=λs=>by obtain⟨_,hc,_⟩:=hb.out;exact SlC.Ov (H:=H) hc s
  have huS:S∉(AV.one u).ids:=Eu M7 I1 hrow6 λi s f h1 h2=>by
   match i,h1 with
   |0,h1=>exact had s (by simpa using h1)
   |1,h1=>exact hbd s (by simpa using h1)
   |2,h1=>exact hlad s (by simpa using h1)
   |3,h1=>exact hwd s (by simpa using h1)
   |4,h1=>simp at h1
   |5,h1=>simp at h1
   |6,h1=>simp at h1
   |n+7,h1=>simp at h1
  have hur:=XJ ho6 M7 I1;have hll:((ldC ls lc).take i).length<=64:=by rw[dY,yw];omega
  obtain⟨zz,hz,S2⟩:=MF;obtain⟨hlt9,v9,H9,r9,X2,ho9,l8,hr9⟩:=ho6.push uS vo gm Lf hz S2 aE (λj(hj:j=S)=>by rw[hj];exact n26) (c0:=[.o (.str (ca (some ls) y.2.2.1).1),u]) (x:=ca (some ls) y.2.2.1) rfl ⟨u,rfl,M7⟩ (λj hj=>by rw[Ab]at hj;exact⟨λ(e:j=S)=>huS (by rw[<-e];exact hj),hur j hj⟩) aa
  have hrX:∀q,r=some q->q≠S:=λq hq=>(ho6.row q hq).1;have hrow9:=(l8.get S n26 λhh=>hrX S hh rfl).trans hrow6;have n29:S<H9.nx:=ay n26 l8.nx;have g09:Gr H H9:=g06.then l8 λq hq=>.inl (hr.out q hq);have htk2:(ldC ls lc).take i++[ca (some ls) y.2.2.1]=(ldC ls lc).take (i+1):=by
   rw[List.take_add_one];congr 1
   unfold ldC;rw[pf,ex.out];rfl
  rw[htk2]at ho9;have ho10:∀o,om uj 2 51 (λk=>k=S) (H9.mod S o) v9 ((ldC ls lc).take (i+1)) (some r9):=λo=>ho9.fr uS vo ((Fr.refl (X:=λk=>k=S) H9).mod _ (.inr rfl)) λj hj=>.inl hj;have C7:∀q,some r9=some q->H.nx<=q:=λq hq=>by
   cases hq
   rcases hr9 with h|h
   ·exact hr.out _ h
   have:=g06.nx;omega
  clear hz S2 zz l8 hr9 ho9 ho6 hlad hwd had hbd hur huS I1;replace ho10:=hd ho10;replace C7:=hd C7;replace htk2:=hd htk2;replace hrX:=hd hrX;replace g06:=hd g06;replace g09:=hd g09;replace hu:=hd hu;replace M7:=hd M7;replace hll:=hd hll;refine zG (qA tyR rq) λK5 U0=>?_;refine⟨hlt9,?_⟩;refine zK tyR ?_;apply q1.out;refine zW tyR ?_;exact⟨lc.length-(i+1),aa,i+1,v9,some r9,rfl,D0,g09.out.mod _ (.inl hS),n29,ao rfl,ho10.out _,C7,zL⟩
 have U2:i=lc.length:=aa;rw[U2,<-yw ls lc,pn]at ho;clear U2;replace ho:=hd ho;refine zW tyR ?_;apply k2.out;exact hK.out _ _ la r g2 n2 V0 ho.out zL
def Zg:aq prog 51=true:=ae
def Ew(v:List Int)(lr:List Rl)(K:Int->Int->Int)(B limit:Nat)(found:List (List Fx)):Prop:=
 (found=[]/\∀c≤B,∀f,¬Sol v lr K c f)\/∃c≤B,found≠[]/\FOk v lr K c limit found/\found.length<=limit+1/\(∀f,Sol v lr K c f->Got limit found f)/\∀c'<c,∀f,¬Sol v lr K c' f
def WV{limit:Nat}{f:List Fx}(h:Got limit [] f):False:=by
 unfold Got at h;by_cases c:limit=0
 ·rw[ad c]at h;obtain⟨_,h,_⟩:=h;cases h
 rw[ab c]at h;rcases h with h|h
 ·cases h
 exact absurd h (Nat.not_lt_zero _)
def Fnd.aaZ{X:Nat->Prop}{H:Hp}{F:AC}{r:Option Nat}(h:Fnd X H F [] r):F=.o .nilS:=by
 rcases h with⟨h,_⟩|⟨_,_,_,_,_,_,_,_,_,_,_,h,_⟩
 ·exact h
 exact absurd h (Nat.lt_irrefl 0)
def Zs{c:Code}(hc:atF Tryz.f24 [1,1,1,0,1]=some c){a b la w:AC}{ld:List Lad}{lc:List Cl}{lr:List Rl}{v:List Int}(G0:ot ld lr v){B limit S N:Nat}(hB:B<=3)(W2:limit<=100){H:Hp}{A:ag}{K:ax->ag->Hp->Prop}
  (hD:SrD S N H a b la w lc lr ld v) (hSn:S<H.nx) (V0:H.get S=some (.arr [a,b,la,w,.i .i64 0,.i .i64 (limit:Int),.o .nilS] 129 0 0))
  (hs:dw A B (kh A S (A.nt=74/\A.dfr=[])))
  (hK:∀(A2:ag)(H2:Hp)(F':AC)(r':Option Nat)(found':List (List Fx))(cc:Nat),Fr (λk=>k=S) H H2->S<H2.nx->H2.get S=some (.arr [a,b,la,w,.i .i64 (cc:Int),.i .i64 (limit:Int),F'] 129 0 0)->Fnd (λk=>k=S) H2 F' found' r'->Ew v lr (kF ld v) B limit found'->kh A2 S (A2.nt=74/\A2.dfr=[])->K .normal A2 H2):R1 E2 none c A H K:=by
 cases hc
 obtain⟨t3,t11,A0,B0⟩:=hs;replace hK:=hd hK;replace hD:=hd hD;refine R1.cR λK1 k1 k2 k3 k4=>?_;refine R1.loop (λm A H2=>∃cc:Nat,m=B+1-cc/\cc<=B+1/\Hd (Fr (λk=>k=S) H H2)/\S<H2.nx/\H2.get S=some (.arr [a,b,la,w,.i .i64 (cc:Int),.i .i64 (limit:Int),.o .nilS] 129 0 0)/\Hd (∀c'<cc,∀f,¬Sol v lr (kF ld v) c' f)/\dw A B (kh A S (A.nt=74/\A.dfr=[]))) ?_ (B+1)
  ⟨0,rfl,Nat.zero_le _,Fr.refl _,hSn,V0,(λc' h=>absurd h (Nat.not_lt_zero _):∀c'<0,∀f,¬Sol v lr (kF ld v) c' f),t3,t11,A0,B0⟩
 clear t3 t11 A0 B0 A hSn V0;rintro m A H2 ⟨cc,rfl,W0,hf,hSn,V0,M4,t3,t11,A0,B0⟩;have N2:=bw cc;by_cases hcb:cc<=B
 ·have hcb2:(cc:Int)<=(B:Int):=aa;refine zW tyR ?_;refine R1.ed λK2 q1 q2 q3 q4=>?_;have hD2:SrD S H2.nx H2 a b la w lc lr ld v:=(hD.out.fr hf.out λk h=>.inl h).up (aD hD.out.1 hf.out.nx) (ai _);refine zG (qA tyR Zg) λK5 U0=>?_;refine WE.con (Yd G0 aa W2 (Qx G0.rp M4.out) H2 S a b la w lc ⟨hSn,V0⟩ hD2) λw' H3 f3⟨hw,hq⟩=>?_;subst hw;obtain⟨F',r',found',⟨hS3,hrow3⟩,hF3,B5,hFk,hle,hgot⟩:=hq;have flen:=hF3.len;have flt:=hF3.lt;have hf3:Fr (λk=>k=S) H H3:=hf.out.then f3 λk h=>.inr h;clear hD2 B5;replace hf3:=hd hf3;replace f3:=hd f3;replace hFk:=hd hFk;replace hgot:=hd hgot;replace hle:=hd hle;by_cases hl:found'=[]
  ·subst hl;have hFe:=hF3.aaZ;subst hFe;have hno2:∀c'<cc+1,∀f,¬Sol v lr (kF ld v) c' f:=λc' hc' f hs=>by
    rcases Nat.lt_succ_iff_lt_or_eq.1 hc' with h|h
    ·exact M4.out c' h f hs
    subst h;exact WV (hgot.out f hs)
   have hlen0:¬(0:Int)<((([]:List (List Fx)).length:Nat):Int):=aE;replace hno2:=hd hno2;replace hF3:=hd hF3;refine zK tyR ?_;apply q1.out;refine zW tyR ?_;exact⟨B+1-(cc+1),aa,cc+1,rfl,aa,hf3.out.mod _ (.inr rfl),hS3,ao rfl,hno2,zL⟩
  have hlen0:(0:Int)<(found'.length:Int):=by have:=List.length_pos_iff.2 hl;omega
  have hP:Ew v lr (kF ld v) B limit found':=.inr ⟨cc,hcb,hl,hFk.out,hle.out,hgot.out,M4.out⟩;replace hP:=hd hP;replace hl:=hd hl;replace hF3:=hd hF3;refine zK tyR ?_;refine q3.out _ _ _ aE ?_;apply k2.out;exact hK.out _ _ F' r' found' cc hf3.out hS3 hrow3 hF3.out hP.out zL
 have hcb2:¬(cc:Int)<=(B:Int):=aa;have hP:Ew v lr (kF ld v) B limit []:=.inl ⟨rfl,λc' hc'=>M4.out c' aa⟩;replace hP:=hd hP;replace hcb:=hd hcb;refine zW tyR ?_;apply k2.out;exact hK.out _ _ (.o .nilS) none [] cc hf.out hSn V0 Fnd.nil hP.out zL
def Hs:aq prog 24=true:=ae
def EX(H:Hp)(k a b w:AC)(ls:List Lad)(lc:List Cl)(lr:List Rl)(v:List Int)(B limit:Nat)(hk:cM H k (some ls))(hL:∀x∈ls,x.2.length<=1000000)(ha:fJ H a lc)(hb:fu H b lr)(hw:SlI H w v)(hC:lc.length<=64)
  (N0:∀y∈lc,aR (ca (some ls) y.2.2.1).1 (ca (some ls) y.2.2.1).2=0) (G0:ot (ldC ls lc) lr v) (hB:B<=3) (W2:limit<=100):
  Con E2 24 [.one k,.agg [a,b],.one w,.one (.i .i64 (B:Int)),.one (.i .i64 (limit:Int))] H (λ_=>False) λq H'=>∃F' r' found',q=.one F'/\Fnd (λ_=>False) H' F' found' r'/\Ew v lr (kF (ldC ls lc) v) B limit found':=by
 refine Con.of rfl λlg=>?_;have hk:cM ⟨H.t,H.nx,lg⟩ k (some ls):=cM.same (H:=H) rfl rfl hk;have ha:fJ ⟨H.t,H.nx,lg⟩ a lc:=ha;have hb:fu ⟨H.t,H.nx,lg⟩ b lr:=hb;have hw:SlI ⟨H.t,H.nx,lg⟩ w v:=hw;generalize(⟨H.t,H.nx,lg⟩:Hp)=H at hk ha hb hw |-
 refine C1.EP 74 [.tmp 10] Tryz.func24 λtm h0 h1 h2 h3 h4=>?_;have la:=ha.lt;have lb:=hb.lt;have lw:=hw.lt;replace N0:=hd N0;replace hL:=hd hL;refine zG tyR λK1 Y7=>?_;apply Y7.out;refine R1.gen (λA1 H1=>Gr H H1/\H1.nx=H.nx+1/\H1.get H.nx=some (.arr [a,b] 26 0 0)/\ko A1.tm 0 2 (k) (w) (dw A1 B (pF A1 4 6 10 (.i .i64 (limit:Int)) (.o (.ptr H.nx 0 0 2)) (.o .nilS) 74 []))) ⟨(Fr.refl _).new _,rfl,aJ rfl,zL⟩ ?_;clear h0 h1 h2 h3 h4 tm Y7 K1;rintro A H1 ⟨g1,n1,r1,t0,t2,t3,t4,t6,t10,A0,B0⟩;have n1':H.nx<H1.nx:=aa;replace n1:=hd n1;refine zG (zDg tyR Yo XV QM QN QO) λK1 Y7=>?_;apply Y7.out;refine R1.gen (λA1 H2=>Gr H H2/\Gr H1 H2/\H1.nx<H2.nx/\H2.get H1.nx=some (.arr [a,b,.o .nilS,w,.i .i64 0,.i .i64 (limit:Int),.o .nilS] 129 0 0)/\slot A1.tm 0=.one (k)/\dw A1 B (slot A1.tm 6=.one (.o (.ptr H.nx 0 0 2))/\kh A1 H1.nx (A1.nt=74/\A1.dfr=[]))) ⟨g1.new _,(Fr.refl _).new _,aZ _,aJ rfl,zL⟩ ?_;clear t0 t2 t3 t4 t6 t10 A0 B0 A Y7 K1;rintro A H2 ⟨g2,g12,n2,V0,t0,t3,t6,t11,A0,B0⟩;have r2:=(g12.get _ n1' aF).trans r1;have n02:H.nx<H2.nx:=ay n1' g12.nx;have l1:=(ha.gr g2).len;have l2:=(ha.gr g2).lt;obtain⟨S,hSe⟩:=dZ H1.nx;rw[<-hSe]at n2 V0 t11;have hSn:H.nx<=S:=aa;replace hSe:=hd hSe;replace hk:=hd hk;replace ha:=hd ha;replace hb:=hd hb;replace hw:=hd hw;clear la lb lw r1 g12;refine zW tyR ?_;refine R1.seq (aaV rfl hk.out hL.out ha.out hb.out hw.out hC N0.out hSn g2 n2 V0 zL λA2 H3 la r g3 n3 hrow3 ho hs3=>?_);show R1 E2 none _ A2 H3 _;clear t0 t3 t6 t11 A0 B0 A l1 l2 V0 r2;obtain⟨t3,t11,A0,B0⟩:=hs3;refine zG tyR λK1 Y7=>?_;apply Y7.out;refine R1.gen (λA4 H4=>Gr H H4/\S<H4.nx/\H4.get S=some (.arr [a,b,la,w,.i .i64 0,.i .i64 (limit:Int),.o .nilS] 129 0 0)/\om uj 2 51 (λk=>k=S) H4 la (ldC ls lc) r/\dw A4 B (kh A4 S (A4.nt=74/\A4.dfr=[])))
  ⟨g3.mod _ (.inl hSn),n3,ao rfl,ho.fr uS vo ((Fr.refl (X:=λk=>k=S) H3).mod _ (.inr rfl)) λj hj=>.inl hj,zL⟩ ?_
 clear t3 t11 A0 B0 A2 Y7 K1 ho hrow3;rintro A H4 ⟨g4,n4,hrow4,ho,t3,t11,A0,B0⟩;have hD:SrD S H4.nx H4 a b la w lc lr (ldC ls lc) v:=⟨ai _,λH' h1 h2=>by have hle:=g4.nx;have gf:Gr H ⟨H'.t,H'.nx,H.log⟩:=⟨aD hle h1,λi hi _=>(h2 i aa λhx=>hx.elim (λe=>aa) λe=>aa).trans (g4.get i hi aF),[],rfl,λ_ h=>by cases h⟩;have ff:Fr (SrX S H4.nx) H4 ⟨H'.t,H'.nx,H4.log⟩:=⟨h1,h2,[],rfl,λ_ h=>by cases h⟩;exact⟨(ha.out.gr gf:fJ ⟨H'.t,H'.nx,H.log⟩ a lc),(hb.out.gr gf:fu ⟨H'.t,H'.nx,H.log⟩ b lr),((ho.fr uS vo ff λj hj=>hj).slr:SlR uj 2 ⟨H'.t,H'.nx,H4.log⟩ la (ldC ls lc)),(hw.out.gr gf:SlI ⟨H'.t,H'.nx,H.log⟩ w v)⟩⟩
 refine R1.seq (Zs rfl G0 hB W2 hD n4 hrow4 ⟨t3,t11,A0,B0⟩ λA5 H5 F' r' found' cc f5 n5 hrow5 hF5 hP Q1=>?_);show R1 E2 none _ A5 H5 _;clear t3 t11 A0 B0 A hrow4 ho hD;obtain⟨t11,A0,B0⟩:=Q1;have g5:Gr H H5:=g4.then f5 λj(hj:j=S)=>.inl aa;have hF6:Fnd (λ_=>False) H5 F' found' r':=hF5.wide λ_ h=>h.elim;replace hF6:=hd hF6;replace hF5:=hd hF5;replace hP:=hd hP;replace f5:=hd f5;refine zW tyR ?_;exact⟨_,_,au F' (.inr rfl) qe qp,g5,λlg'=>⟨F',r',found',rfl,hF6.out,hP.out⟩⟩
def Px:aq prog 7=true:=ae
def mA{ls:List Lad}{p:Pz}{v:List Int}(h:fO (some ls) p v=0)(N0:∀x∈ls,aR x.1 x.2=0):ot (ldC ls p.1) p.2 v:=by
 obtain⟨hC,hR,U1,hcp,_⟩:=ou h;obtain⟨_,e,_,_,hgo,B2⟩:=pU hcp;cases e
 have hvr:=zF h;have hl:v.length=(ldC ls p.1).length:=by rw[yw];exact U1
 have hc:∀x∈ldC ls p.1,aR x.1 x.2=0:=λx hx=>by obtain⟨y,hy,rfl⟩:=List.mem_map.1 hx;exact N0 _ (wS (uW hgo y hy))
 exact⟨hl,by have:p.1.length<=64:=hC;omega,by have:p.2.length<=64:=hR;omega,hc,hvr,aa8 B2 (by have:p.1.length<=64:=hC;omega) U1 hvr λi to=>Xe hl hc hvr i to⟩
def BM(o:Option (List Lad))(p:Pz)(v:List Int)(B:Int)(f:List Fx)(e:Int):Prop:=
 (fO o p v≠0/\e=fO o p v/\f=[])\/(fO o p v=0/\(B<0\/3<B)/\e=8/\f=[])\/(fO o p v=0/\(0<=B/\B<=3)/\∃ls,o=some ls /\
  ((e=4/\f=[]/\∀cc:Nat,(cc:Int)<=B->∀g,¬Sol v p.2 (kF (ldC ls p.1) v) cc g) \/
   (e=0/\∃cc:Nat,(cc:Int)<=B/\Sol v p.2 (kF (ldC ls p.1) v) cc f/\(∀c'<cc,∀g,¬Sol v p.2 (kF (ldC ls p.1) v) c' g)/\∀g,Sol v p.2 (kF (ldC ls p.1) v) cc g->eb g f=false)))
def LZ(H:Hp)(k a b w:AC)(o:Option (List Lad))(p:Pz)(v:List Int)(B:Int)(hk:cM H k o)(hL:∀ls,o=some ls->∀x∈ls,x.2.length<=1000000)(N0:∀ls,o=some ls->∀x∈ls,aR x.1 x.2=0)(ha:fJ H a p.1)(hb:fu H b p.2)(hB:PzB p)(hw:SlI H w v)(hV:v.length<=4611686018427387904):
  Con E2 7 [.one k,.agg [a,b],.one w,.one (.i .i64 B)] H (λ_=>False) λr H'=>∃c e f,r=.tup [(false,[c]),(false,[.i .i64 e])]/\SlF H' c f/\BM o p v B f e:=by
 refine Con.of rfl λlg=>?_;have hk:cM ⟨H.t,H.nx,lg⟩ k o:=cM.same (H:=H) rfl rfl hk;have ha:fJ ⟨H.t,H.nx,lg⟩ a p.1:=ha;have hb:fu ⟨H.t,H.nx,lg⟩ b p.2:=hb;have hw:SlI ⟨H.t,H.nx,lg⟩ w v:=hw;generalize(⟨H.t,H.nx,lg⟩:Hp)=H at hk ha hb hw |-
 refine C1.nk 36 [.tmp 8,.tmp 9] Tryz.func7 λtm h0 h1 h2 h3=>?_;have fin:Hd (∀(c:AC)(e:Int)(f:List Fx)(A:ag)(H3:Hp),slot A.tm 8=.one c->slot A.tm 9=.one (.i .i64 e)->A.dfr=[]->Gr H H3->SlF H3 c f->BM o p v B f e ->
   ∃w H4,aH E2 [.tmp 8,.tmp 9] (.ret,A,H3)=.ok [(w,H4)]/\Gr H H4/\∀lg:List Nat,∃c e f,w=.tup [(false,[c]),(false,[.i .i64 e])]/\SlF ⟨H4.t,H4.nx,lg⟩ c f/\BM o p v B f e):=λc e f A H3 h8 h9 hdd hg hs hr=>
  ⟨_,H3,bC c (.i .i64 e) (.inr rfl) hdd h8 h9,hg,λlg=>⟨c,e,f,rfl,hs,hr⟩⟩
 refine zG tyR λK hK=>?_;apply hK.out;refine R1.gen (λA1 H1=>Gr H H1/\H.nx<H1.nx/\H1.get H.nx=some (.arr [a,b] 26 0 0)/\ko A1.tm 0 2 (k) (w) (dw A1 B (eK A1 5 (.o (.ptr H.nx 0 0 2)) 36 []))) ⟨(Fr.refl _).new _,aZ _,aJ rfl,zL⟩ ?_;rintro A1 H1 ⟨g1,m1,rx,t0,t2,t3,t5,A0,B0⟩;clear h0 h1 h2 h3 tm hK K;have hk:=hk.gr g1;have ha:=ha.gr g1;have hb:=hb.gr g1;have hw:=hw.gr g1;refine zG (qA tyR kV) λK hK=>?_;refine WE.con (jR H1 k a b w o p v hk hL ha hb hB hw hV) λw' H2 g2 hq=>?_;subst hq;obtain⟨rx,m1⟩:=bq g2 m1 rx;have hk:=hk.gr g2;have ha:=ha.gr g2;have hb:=hb.gr g2;have hw:=hw.gr g2;have g2:=g1.gr g2;clear g1;by_cases S1:fO o p v=0
 case neg=>have ce:(fO o p v==0)=false:=aW S1;have hR:BM o p v B [] (fO o p v):=.inl ⟨S1,rfl,rfl⟩;have M5:SlF H2 (.o .nilS) []:=SlF.nil;replace hR:=hd hR;replace M5:=hd M5;replace S1:=hd S1;refine zK tyR ?_;exact fin.out (.o .nilS) _ [] _ _ qp qp qe g2 M5.out hR.out
 have ce:(fO o p v==0)=true:=by rw[S1];rfl
 obtain⟨hC,hRl,U1,hcp,hrg⟩:=ou S1;obtain⟨ls,rfl,_,_,hgo,_⟩:=pU hcp;have G0:=mA S1 (N0 ls rfl);have hc1:∀y∈p.1,aR (ca (some ls) y.2.2.1).1 (ca (some ls) y.2.2.1).2=0:=λy hy=>N0 ls rfl _ (wS (uW hgo y hy));have hC64:p.1.length<=64:=hC;have hL1:=hL ls rfl;have l7:=S1;clear hRl U1 hcp hrg hgo hB hV hL N0 hC;replace l7:=hd l7;replace G0:=hd G0;replace hc1:=hd hc1;replace hL1:=hd hL1;by_cases hB0:B<0
 ·have hR:BM (some ls) p v B [] 8:=.inr (.inl ⟨l7.out,.inl hB0,rfl,rfl⟩);have M5:SlF H2 (.o .nilS) []:=SlF.nil;replace hR:=hd hR;replace M5:=hd M5;refine zK tyR ?_;exact fin.out (.o .nilS) _ [] _ _ qp qp qe g2 M5.out hR.out
 by_cases hB3:3<B
 ·have hR:BM (some ls) p v B [] 8:=.inr (.inl ⟨l7.out,.inr hB3,rfl,rfl⟩);have M5:SlF H2 (.o .nilS) []:=SlF.nil;replace hR:=hd hR;replace M5:=hd M5;refine zK tyR ?_;exact fin.out (.o .nilS) _ [] _ _ qp qp qe g2 M5.out hR.out
 obtain⟨n,rfl⟩:=ze (Int.not_lt.1 hB0);have hn3:n<=3:=aa;refine zK tyR ?_;refine zG (qA tyR Hs) λK hK=>?_;refine WE.con (EX H2 k a b w ls p.1 p.2 v n 0 hk hL1.out ha hb hw hC64 hc1.out G0.out hn3 aE) λw' H3 g3⟨F',r',found',Q2,hF,hP⟩=>?_;subst Q2;have flen:=hF.len;have flt:=hF.lt;have g3:=g2.gr g3;rcases hP with⟨rfl,M4⟩|⟨cc,hcn,I1,hFk,_,hgot,M4⟩
 ·have hFe:=hF.aaZ;subst hFe;have hR:BM (some ls) p v (n:Int) [] 4:=.inr (.inr ⟨l7.out,⟨aa,aa⟩,ls,rfl,.inl ⟨rfl,rfl,λcc Z2 g=>M4 cc aa g⟩⟩);have M5:SlF H3 (.o .nilS) []:=SlF.nil;replace hR:=hd hR;replace M5:=hd M5;replace hF:=hd hF;replace M4:=hd M4;have Y4:((((([]:List (List Fx)).length:Nat):Int))==0)=true:=rfl;refine zK tyR ?_;exact fin.out (.o .nilS) _ [] _ _ qp qp qe g3 M5.out hR.out
 have hon:=hFk.on rfl;cases found' with
 |nil=>exact absurd rfl I1
 |cons f l=>
  have hln:l=[]:=List.eq_nil_of_length_eq_zero (by rw[List.length_cons]at hon;omega);subst hln;have hsol:=hFk.so f (bh ..);have hR:BM (some ls) p v (n:Int) f 0:=.inr (.inr ⟨l7.out,⟨aa,aa⟩,ls,rfl,.inr ⟨rfl,cc,aa,hsol,M4,λg hg=>by have:=hgot g hg;unfold Got at this;rw[ad rfl]at this;obtain⟨g',R2,e⟩:=this;rw[List.mem_singleton.1 R2]at e;exact e⟩⟩)
  rcases hF with⟨_,h,_⟩|⟨id,gen,lo,us,ex,rfl,_,h3,h4,h5,_,_,h8⟩
  ·cases h
  cases us with
  |nil=>exact h8.elim
  |cons u us=>have hu:=h8.1.1;have lu:=hu.lt;have Y4:((((([f]:List (List Fx)).length:Nat):Int))==0)=false:=rfl;clear hFk hgot M4 hsol hon I1 h8;replace hR:=hd hR;replace hu:=hd hu;refine zK tyR ?_;exact fin.out u _ f _ _ qp qp qe g3 hu.out hR.out
section
variable{ls:List Lad}{lc:List Cl}{lr:List Rl}{v:List Int}
def Cf(ls:List Lad)(lc:List Cl)(lr:List Rl)(v:List Int)(x:Fx):Prop:=(0<=x.1/\x.1<v.length)/\x.2.1=v.getD x.1.toNat 0/\x.2.2.2≠0/\x.2.2.2=AP ls lc lr x
def Er:List Fx->Int
 |[]=>0
 |x::l=>rk x.2.2.2+Er l
def Se{prev:Option Int}{f:Fx}:gW v prev f=false↔(0<=f.1/\f.1<v.length)/\(∀p,prev=some p->p<f.1)/\f.2.1=v.getD f.1.toNat 0:=by
 unfold gW;rw[iz,iz,iz,fm,fm];constructor
 ·rintro⟨h1,h2,h3,h4⟩;refine⟨aa,λp hp=>?_,?_⟩
  ·subst hp;have:decide (f.1<=p)=false:=h3;rw[fm]at this;omega
  have:(f.2.1==v.getD f.1.toNat 0)=true:=by simpa using h4
  exact eq_of_beq this
 rintro⟨h1,h2,h3⟩;refine⟨aa,aa,?_,by rw[h3];simp⟩;cases prev with
 |none=>rfl
 |some p=>have:=h2 p rfl;exact aV aa
def HR:∀(l:List Fx)(prev:Option Int)(t:Int),(∀x∈l,Cf ls lc lr v x)->oh l->(∀p,prev=some p->∀x∈l,p<x.1)->nu ls lc lr v prev t l=(t+Er l,0)
 |[],prev,t,_,_,_=>by rw[nu,Er,Int.add_zero]
 |f::l,prev,t,h1,h2,h3=>by
  obtain⟨b1,b2,b3,b4⟩:=h1 f (bh ..);have c1:gW v prev f=false:=Se.2 ⟨b1,λp hp=>h3 p hp f (bh ..),b2⟩;obtain⟨h4,h5⟩:=List.pairwise_cons.1 h2;rw[nu,ab (by rw[c1];decide),ab (λh=>h.elim b3 λh=>h b4),HR l _ _ (λx hx=>h1 x (aU _ hx)) h5 λp hp x hx=>by cases hp;exact h4 x hx,Er];congr 1
  omega
end
section
variable{ls:List Lad}{lc:List Cl}{lr:List Rl}{v:List Int}
def ZM{i:Int}(h0:0<=i)(h1:i<lc.length):(ldC ls lc).getD i.toNat ([],[])=ca (some ls) (sS lc i):=by have D0:i.toNat<lc.length:=aa;unfold ldC sS;rw[bt,pf,aO D0];rfl
def AQ(G0:ot (ldC ls lc) lr v){x:Fx}(hx:0<=x.1/\x.1<v.length)(hf:x.2.1=v.getD x.1.toNat 0):
  AP ls lc lr x=if kF (ldC ls lc) v x.1 x.2.2.1≠0 then kF (ldC ls lc) v x.1 x.2.2.1 else if 0<=jX 0 lr x.1/\v.getD x.1.toNat 0≠x.2.2.1/\1<=x.2.2.1/\x.2.2.1<=1099511627776 then 5 else 0:=by
 obtain⟨N0,b8,O6⟩:=G0.lad hx.1 hx.2;have U1:=G0.vl;rw[yw]at U1;have hkb:=Xe G0.vl G0.ck G0.vr x.1 x.2.2.1;have hL:=ZM (ls:=ls) (lc:=lc) hx.1 aa;have he:mz (ca (some ls) (sS lc x.1)).1 (ca (some ls) (sS lc x.1)).2 x.2.2.1 x.2.1=kF (ldC ls lc) v x.1 x.2.2.1:=by
  rw[<-hL,hf];by_cases hb:1<=x.2.2.1/\x.2.2.1<=1099511627776
  ·exact(Ei N0 b8 O6 hb.1 hb.2).symm
  have h0:kF (ldC ls lc) v x.1 x.2.2.1=0:=gh λh=>hb (hkb h).1;rw[h0];unfold mz;rw[ab λh=>hb ⟨h.1.1,h.2.1⟩]
 unfold AP AN;rw[he,hf]
def NY{t:Int}:0<=jX 0 lr t↔∃r∈lr,r.1=t:=by
 rw[<-decide_eq_true_iff (p:=0<=jX 0 lr t),Vw];unfold isT;rw[List.any_eq_true];constructor
 ·rintro⟨r,hr,h⟩;exact⟨r,hr,by simpa using h⟩
 rintro⟨r,hr,h⟩;exact⟨r,hr,by simpa using h⟩
def Cf.fix(G0:ot (ldC ls lc) lr v){x:Fx}(h:Cf ls lc lr v x):((0<=x.1/\x.1<v.length)/\x.2.2.1≠v.getD x.1.toNat 0/\(1<=x.2.2.1/\x.2.2.1<=1099511627776)/\(kF (ldC ls lc) v x.1 x.2.2.1≠0\/∃r∈lr,r.1=x.1))/\rk x.2.2.2=(wF (kF (ldC ls lc) v) x:Int):=by
 obtain⟨h1,h2,h3,h4⟩:=h;have hkb:=Xe G0.vl G0.ck G0.vr x.1 x.2.2.1;rw[AQ G0 h1 h2]at h4;unfold wF rk;by_cases hk:kF (ldC ls lc) v x.1 x.2.2.1≠0
 ·rw[ad hk]at h4;obtain⟨b1,b2,b3⟩:=hkb hk;refine⟨⟨h1,b2,b1,.inl hk⟩,?_⟩;rw[h4,ab b3,ab hk];rfl
 rw[ab hk]at h4;by_cases hc:0<=jX 0 lr x.1/\v.getD x.1.toNat 0≠x.2.2.1/\1<=x.2.2.1/\x.2.2.1<=1099511627776
 ·rw[ad hc]at h4;refine⟨⟨h1,λe=>hc.2.1 e.symm,hc.2.2,.inr (NY.1 hc.1)⟩,?_⟩;rw[h4,ad rfl,ad (Classical.not_not.1 hk)];rfl
 rw[ab hc]at h4;exact absurd h4 h3
def Km(G0:ot (ldC ls lc) lr v):∀{l:List Fx},(∀x∈l,Cf ls lc lr v x)->Er l=(dQ (wF (kF (ldC ls lc) v)) l:Int)
 |[],_=>rfl
 |x::l,h=>by rw[Er,Km G0 λy hy=>h y (aU _ hy),((h x (bh ..)).fix G0).2,dQ];omega
def Sol.aaR(G0:ot (ldC ls lc) lr v){c:Nat}{f:List Fx}(h:Sol v lr (kF (ldC ls lc) v) c f):∀x∈f,Cf ls lc lr v x:=λx hx=>by
 obtain⟨I,T,h1,h2,h3,h4,h5⟩:=h;rcases List.mem_append.1 (h4.mem_iff.1 hx)with hx|hx
 ·obtain⟨a1,a2,a3,a4,_⟩:=h1.ok x hx;refine⟨a1,a2,a4,?_⟩;rw[AQ G0 a1 a2,ad (by rw[<-a3];exact a4)];exact a3
 obtain⟨⟨r,hr,e1⟩,e2,e3⟩:=mC lr T h2 x hx;obtain⟨s,hs,e4,e5,e6,e7,e8⟩:=kM lr T h2 x hx;have C0:=G0.rp.tr r hr;have h1:0<=x.1/\x.1<v.length:=by rw[e1];exact C0
 refine⟨h1,e2,?_,?_⟩
 ·rw[e3];by_cases hk:kF (ldC ls lc) v x.1 x.2.2.1=0
  ·rw[ad hk];decide
  rw[ab hk];exact hk
 rw[AQ G0 h1 e2,e3];by_cases hk:kF (ldC ls lc) v x.1 x.2.2.1=0
 ·rw[ad hk,ab (λh=>h hk),ad ⟨NY.2 ⟨r,hr,e1.symm⟩,by rw[e5,e4];exactλh=>e6 h.symm,aa,aa⟩]
 rw[ab hk,ad hk]
end
def JU:∀(l:List Fx)(v:List Int),(∀n∈v,1<=n/\n<=1099511627776)->(∀x∈l,1<=x.2.2.1/\x.2.2.1<=1099511627776)->∀n∈bm v l,1<=n/\n<=1099511627776
 |[],v,h,_=>h
 |x::l,v,h,h2=>by
  rw[xa];refine JU l _ (λn hn=>?_) λy hy=>h2 y (aU _ hy);rcases List.mem_or_eq_of_mem_set hn with hn|hn
  ·exact h n hn
  rw[hn];exact h2 x (bh ..)
section
variable{ls:List Lad}{p:Pz}{v:List Int}
def SR(h:fO (some ls) p v=0)(l:List Fx):ns (some ls) p v l=nu ls p.1 p.2 v none 0 l:=by unfold ns;rw[ab (λhh=>hh h)];rfl
def Sb{l:List Fx}(hc:(ns (some ls) p v l).2=0):KS (some ls) p v l=(bm v l,0):=by unfold KS;rw[ab (λh=>h hc)]
def We(h0:fO (some ls) p v=0)(N0:∀x∈ls,aR x.1 x.2=0){l:List Fx}(hl:∀x∈l,Cf ls p.1 p.2 v x):fO (some ls) p (bm v l)=0:=by
 have G0:=mA h0 N0;obtain⟨hC,hR,U1,hcp,_⟩:=ou h0;have L2:=JU l v (zF h0) λx hx=>((hl x hx).fix G0).1.2.2.1;have hv:vS p.1 (bm v l)=true:=by
  unfold vS;rw[aT];refine⟨by rw[dF,U1];exact fl _,?_⟩;cases hb:(bm v l).any ma with
  |false=>rfl
  |true=>obtain⟨n,hn,e⟩:=List.any_eq_true.1 hb;have:=L2 n hn;unfold ma at e;rw[eW,bB,bB]at e;omega
 unfold fO;rw[ab (λh=>h hcp),ab (by rw[hv];decide)]
def KJ(h:fO (some ls) p v=0):fk (some ls) p v=(pb v 0 [] p.2,0):=by unfold fk;rw[ab (λhh=>hh h)]
def Yh(h0:fO (some ls) p v=0)(N0:∀x∈ls,aR x.1 x.2=0){c:Nat}{f:List Fx}(hs:Sol v p.2 (kF (ldC ls p.1) v) c f):ns (some ls) p v f=((c:Int),0)/\KS (some ls) p v f=(bm v f,0)/\fk (some ls) p (bm v f)=([],0):=by
 have G0:=mA h0 N0;have hfx:=hs.aaR G0;have ha:oh f:=by obtain⟨I,T,_,_,_,_,h⟩:=hs;exact h
 have h1:ns (some ls) p v f=((c:Int),0):=by rw[SR h0,HR f none 0 hfx ha λ_ h=>by (cases h),Km G0 hfx,hs.cost G0.rp,Int.zero_add]
 refine⟨h1,Sb (by rw[h1]),?_⟩;rw[KJ (We h0 N0 hfx),(tX _ _ _ _).2 ⟨rfl,hs.right G0.rp⟩]
end
def UZ{o:Option (List Lad)}{p:Pz}{v:List Int}{B e:Int}{f:List Fx}(N0:∀ls,o=some ls->∀x∈ls,aR x.1 x.2=0)(h:BM o p v B f e):f.length<=3:=by
 rcases h with⟨_,_,rfl⟩|⟨_,_,_,rfl⟩|⟨h1,h2,ls,rfl,⟨_,rfl,_⟩|⟨_,cc,h4,h5,_⟩⟩
 ·exact Nat.zero_le _
 ·exact Nat.zero_le _
 ·exact Nat.zero_le _
 have:=(Sol.fxb (mA h1 (N0 ls rfl)).rp h5).2;omega
namespace Sv
def cm{α:Type}(c:α->List AC)(d:Array α):List AC:=d.toList.flatMap c
section
variable{α:Type}[Inhabited α]{c:α->List AC}(hc:∀x,(c x).length=3)
include hc
omit [Inhabited α]in
theorem iU(d:Array α):(cm c d).length=d.size*3:=by unfold cm;rw[ql hc,ke]
omit [Inhabited α]in
theorem Bq(d:Array α)(i:Nat)(x:α):(cm c (d.setIfInBounds i x)).length=(cm c d).length:=by rw[iU hc,iU hc,rT]
theorem kK(d:Array α){i:Nat}(h:i<d.size):((cm c d).drop (i*3)).take 3=c d[i]!:=by
 have e:d.toList[i]?=some d[i]!:=by rw[lS,ub d i h,pq h]
 exact yr hc d.toList i _ e
omit [Inhabited α]in
theorem kL(d:Array α){i:Nat}(h:i<d.size):i*3+3<=(cm c d).length:=by rw[iU hc];omega
omit [Inhabited α]in
theorem qn:∀(l:List α)(i:Nat)(x:α),i<l.length->(l.flatMap c).take (i*3)++(c x++(l.flatMap c).drop (i*3+3))=(l.set i x).flatMap c
 |[],i,_,h=>absurd h (Nat.not_lt_zero i)
 |y::l,0,x,_=>by rw[Nat.zero_mul,List.take_zero,gQ,List.flatMap_cons,List.set_cons_zero,List.flatMap_cons,Nat.zero_add,sG,hc,mR (mS (hc y)),ga,List.drop_zero,gQ]
 |y::l,i+1,x,h=>by have ih:=qn l i x (Nat.lt_of_succ_lt_succ h);have e1:(i+1)*3=3+i*3:=aa;have e2:3+i*3+3=3+(i*3+3):=aa;rw[List.flatMap_cons,List.set_cons_succ,List.flatMap_cons,<-ih,e1,e2,List.take_append,sG,hc,iX (by rw[hc];omega),mR (by rw[hc];omega),gQ,bW,zh,zh]
omit [Inhabited α]in
theorem ru(d:Array α){i:Nat}(h:i<d.size)(x:α):(cm c d).take (i*3)++(c x++(cm c d).drop (i*3+3))=cm c (d.setIfInBounds i x):=by unfold cm;rw[qn hc d.toList i x (by rw[ke];exact h),zj]
theorem swQ{d:Array α}{i j:Nat}(hi:i<d.size)(hj:j<d.size):
  (((cm c d).drop (i*3)).take 3=c d[i]!)/\(((cm c d).drop (j*3)).take 3=c d[j]!)/\i*3+3<=(cm c d).length/\j*3+3<=(cm c d).length/\(∀(d:Array α)(i:Nat)(x:α),(cm c (d.setIfInBounds i x)).length=(cm c d).length) /\
  (∀x,(cm c d).take (i*3)++(c x++(cm c d).drop (i*3+3))=cm c (d.setIfInBounds i x)) /\
  (∀x y,(cm c (d.setIfInBounds i x)).take (j*3)++(c y++(cm c (d.setIfInBounds i x)).drop (j*3+3))=cm c ((d.setIfInBounds i x).setIfInBounds j y)):=
 ⟨kK hc d hi,kK hc d hj,kL hc d hi,kL hc d hj,Bq hc,λx=>ru hc d hi x,λx y=>ru hc _ (by rw[rT];exact hj) y⟩
theorem rdQ{d:Array α}{i j:Nat}(hi:i<d.size)(hj:j<d.size):
  (((cm c d).drop (i*3)).take 3=c d[i]!)/\(((cm c d).drop (j*3)).take 3=c d[j]!)/\i*3+3<=(cm c d).length/\j*3+3<=(cm c d).length:=
 ⟨kK hc d hi,kK hc d hj,kL hc d hi,kL hc d hj⟩
end
def swp_size{α:Type}[Inhabited α](d:Array α)(i j:Nat):(Go.Sort.swp d i j).size=d.size:=by unfold Go.Sort.swp;rw[rT,rT]
def Srt{α:Type}(c:α->List AC)(H:Hp)(id gen n:Nat)(d:Array α):Prop:=d.size=n/\(∃lo,lo<=gen/\H.get id=some (.arr (cm c d) 63 lo gen))/\id<H.nx
def Srt.sz{α:Type}{c:α->List AC}{H:Hp}{id gen n:Nat}{d:Array α}(h:Srt c H id gen n d):d.size=n:=h.1
def Srt.row{α:Type}{c:α->List AC}{H:Hp}{id gen n:Nat}{d:Array α}(h:Srt c H id gen n d):∃lo,lo<=gen/\H.get id=some (.arr (cm c d) 63 lo gen):=h.2.1
def Srt.lt{α:Type}{c:α->List AC}{H:Hp}{id gen n:Nat}{d:Array α}(h:Srt c H id gen n d):id<H.nx:=h.2.2
structure Cmp{α:Type}(c:α->List AC)(cf:α->α->Int)(cl:FuncId)(N:Nat):Prop where
 len:∀x,(c x).length=3
 lt:∀x,ltV (.agg (c x)) N
 bd:aq prog cl=true
 con:∀(H:Hp)(x y:α),N<=H.nx->Con E2 cl [.agg (c x),.agg (c y)] H (λ_=>False) λr _=>r=.one (.i .i64 (cf x y))
def ltF{α:Type}(cf:α->α->Int)(x y:α):Bool:=decide (cf x y<0)
def Cmp.ltH{α:Type}{c:α->List AC}{cf:α->α->Int}{cl:FuncId}{N:Nat}(h:Cmp c cf cl N){n:Nat}(hn:N<=n):∀x,ltV (.agg (c x)) n:=λx i hi=>ay (h.lt x i hi) hn
def Srt.fr{α:Type}{c:α->List AC}{H H':Hp}{id gen n:Nat}{d:Array α}{X:Nat->Prop}(h:Srt c H id gen n d)(hf:Fr X H H')(hx:¬X id):Srt c H' id gen n d:=by obtain⟨lo,h1,h2⟩:=h.row;exact⟨h.sz,⟨lo,h1,(hf.get _ h.lt hx).trans h2⟩,ay h.lt hf.nx⟩
end Sv
end Go.Proofs.YtgepceljhelekaaGreat

/- A part of the proof: BkUs6, BkUs7, BkUs8, BkUs9, BkUs10, BkUs11, BkUs12, BkUs13, BkUs14, BkCostsEnd, BkRaEnd, BkRaHold. No conditions. -/
import Derived.Test.YtgepceljhelekaaGreatPAAl
set_option maxRecDepth 100000
set_option maxHeartbeats 64000000
set_option linter.all false
open Go.Proofs.Tryz (prog)
namespace Go.Proofs.YtgepceljhelekaaGreat
open Go Go.Eng
def sL:ao prog 77=true:=ae
def Lz(z:Ug):List (List (Int×Int)):=z.L.map λx=>x.2.map λs=>(s.2.2,s.1)
def aa8{v:List Int}{B j:Nat}{L:List (List (Int×Int))}{F:List Fx}(h:B<F.length):itR v B j L F=[]:=by cases L<;>rw[itR,ad h]
def itZ(z:Ug)(B j:Nat)(F:List Fx):List (List Fx):=itR z.v B j ((Lz z).drop j) F
def KW(z:Ug)(j:Nat)(F:List Fx)(s:Sp):List Fx:=F++[((j:Int),z.v.getD j 0,s.2.2,s.1)]
def YJ{z:Ug}{B:Nat}{F:List Fx}(hL:z.L.length=z.v.length)(h:¬B<F.length):itZ z B z.v.length F=[F]:=by unfold itZ;rw[pU (by unfold Lz;rw[cP];omega),itR,ab h]
def UR{z:Ug}{B j:Nat}{F:List Fx}{p:AC×List Sp}(hp:z.L[j]?=some p)(h:¬B<F.length):
  itZ z B j F=itZ z B (j+1) F++if F.length=B then[]else p.2.flatMap λs=>itZ z B (j+1) (KW z j F s):=by
 have B0:j<(Lz z).length:=by unfold Lz;rw[cP];exact(List.getElem?_eq_some_iff.1 hp).1
 have e:(Lz z)[j]=p.2.map λs=>(s.2.2,s.1):=by
  have:(Lz z)[j]?=some (p.2.map λs=>(s.2.2,s.1)):=by unfold Lz;rw[pV,hp];rfl
  rw[aA B0]at this;exact eh this
 unfold itZ;rw[List.drop_eq_getElem_cons B0,itR,ab h,e,List.flatMap_map];rfl
def ns(z:Ug)(B:Nat)(l:List (List Fx)):List (List Fx):=l.filterMap (xK z.v z.lr (KFz z) B)
def KZ{z:Ug}{B:Nat}{l k:List (List Fx)}:ns z B (l++k)=ns z B l++ns z B k:=List.filterMap_append
def Cr{z:Ug}{B:Nat}{l:List (List Fx)}:(ns z B l).length<=l.length:=List.length_filterMap_le _ _
def Sh{v:List Int}{F:List Fx}{j:Nat}{x:Fx}(hx:x.1=(j:Int)):aY v (F++[x])=(aY v F).set j x.2.2.1:=by rw[Cq,hx];rfl
def KU{v:List Int}{F:List Fx}{j:Nat}(h:∀x∈F,0<=x.1/\x.1<(j:Int)):(aY v F).set j (v.getD j 0)=aY v F:=by
 refine Jg (by rw[fl]) λi hi=>?_;rw[sU];by_cases c:j=i/\i<(aY v F).length
 ·rw[ad c,<-c.1,kK F v j λx hx e=>?_];have:=h x hx;omega
 rw[ab c]
def ItQ(z:Ug)(B:Nat)(ww:AC)(F:List Fx)(found:List (List Fx))(H':Hp):Prop:=∃f' fo' q' r',US z B H' f' fo' ww (aY z.v F) F found q' r'
def IcC(z:Ug)(B j:Nat):Prop:=∀(H:Hp)(f fo ww:AC)(F:List Fx)(found:List (List Fx))(q r:Option Nat),US z B H f fo ww (aY z.v F) F found q r->(∀x∈F,0<=x.1/\x.1<(j:Int))->F.length<=B+1->found.length+(itZ z B j F).length<=1000000000000 ->
 Con E2 77 [.one (.o (.ptr z.S 0 0 9)),.one (.i .i64 (j:Int)),.one (.i .i64 (F.length:Int))] H (XU z) λw H'=>w=.tup []/\ItQ z B ww F (found++ns z B (itZ z B j F)) H'
def BI{z:Ug}(E0:mu (ldC z.ls z.lc) z.lr z.v)(l8:∀x∈z.ls,x.2.length<=1000000)(q_:z.ls.length<=1000000){B:Nat}(hB:B<=3)(hLn:z.L.length=z.v.length)(hLs:∀p∈z.L,p.2.length<=1000){j:Nat}(hj:j<=z.v.length)(U1:j<z.v.length->IcC z B (j+1)):IcC z B j:=by
 intro H f fo ww F found q r hs hFc hFl hlen;refine Con.of rfl λlg=>?_;have hs:=hs.lg lg;generalize(⟨H.t,H.nx,lg⟩:Hp)=H at hs |-
 refine C1.yV 120 [] Tryz.func77 λtm h0 h1 h2=>?_;have hN:=hs.dat.n;have hv64:=E0.v64;have fin:Hd (∀(T:List (List Fx))(e:au)(A:ag)(H3:Hp),(e=.normal\/e=.ret)->A.dfr=[]->Fr (XU z) H H3->found++ns z B (itZ z B j F)=T->ItQ z B ww F T H3 ->
   ∃w H4,aK E2 [] (e,A,H3)=.ok [(w,H4)]/\Fr (XU z) H H4/\∀lg:List Nat,w=.tup []/\ItQ z B ww F (found++ns z B (itZ z B j F)) ⟨H4.t,H4.nx,lg⟩):=λT e A H3 he V' hf hT⟨f',fo',q',r',h⟩=>
  ⟨_,H3,cS he V',hf,λlg=>⟨rfl,f',fo',q',r',by rw[hT];exact h.lg lg⟩⟩
 have G0:=hs.row;have B_:z.S<H.nx:=aa;have hD:=hs.dat.now;have l1:=hD.hv.len;have l2:=hD.hv.lt;replace hD:=hd hD;replace hs:=hd hs;replace hFc:=hd hFc;replace hLs:=hd hLs;by_cases c1:(B:Int)<(F.length:Int)
 ·have hT:found++ns z B (itZ z B j F)=found:=by have:itZ z B j F=[]:=aa8 aa;rw[this];exact List.append_nil _
  replace hT:=hd hT;refine zW tyQ ?_;exact fin.out found _ _ _ (.inr rfl) qe (Fr.refl _) hT.out ⟨f,fo,q,r,hs.out⟩
 by_cases c2:j=z.v.length
 ·have ce:((j:Int)==(z.v.length:Int))=true:=by rw[c2];exact dk _
  have hT:found++ns z B (itZ z B j F)=found++(xK z.v z.lr (KFz z) B F).toList:=by
   rw[c2,YJ hLn aa];unfold ns;cases h:xK z.v z.lr (KFz z) B F with
   |none=>rw[List.filterMap_cons_none h];rfl
   |some f=>rw[List.filterMap_cons_some h];rfl
  replace hT:=hd hT;replace c2:=hd c2;have hll:=hlen;replace hlen:=hd hlen;refine zW tyQ ?_;refine zG (qA tyQ TD) λK5 V0=>?_;refine WE.con (Se E0 l8 q_ H f fo ww F found q r hs.out aa aa) λw' H2 f2⟨hw,fo',r',L1⟩=>?_;subst hw;replace L1:=hd L1;replace f2:=hd f2;refine zK tyQ ?_;exact fin.out _ _ _ _ (.inr rfl) qe f2.out hT.out ⟨f,fo',q,r',L1.out⟩
 have hjn:j<z.v.length:=aa;obtain⟨wg,_,hwe,_⟩:=hs.out.w.at (by rw[dH];omega);rw[dH]at hwe;subst hwe;have ce:((j:Int)==(z.v.length:Int))=false:=aF aa;have hjL:j<z.L.length:=aa;have ep:=aA hjL;have hpm:=bW hjL;generalize z.L[j]=p at ep hpm;have G9:=hLs.out p hpm;have hI:=UR (B:=B) (F:=F) ep aa;have c8:=bB j;have O3:IntKind.i64.wrap ((F.length:Int)+1)=((F.length+1:Nat):Int):=by rw[gE aa aa];omega
 have hFc2:∀x∈F,0<=x.1/\x.1<((j+1:Nat):Int):=λx hx=>by have:=hFc.out x hx;omega
 have K9:found.length+(itZ z B (j+1) F).length<=1000000000000:=by rw[hI,aI]at hlen;omega
 have P6:F.length≠B->found.length+((itZ z B (j+1) F).length+(p.2.flatMap λs=>itZ z B (j+1) (KW z j F s)).length)<=1000000000000:=λc=>by rw[hI,aI,ab c]at hlen;omega
 have R0:=U1 hjn;replace R0:=hd R0;replace K9:=hd K9;replace P6:=hd P6;replace hlen:=hd hlen;replace hFc2:=hd hFc2;replace hI:=hd hI;replace ep:=hd ep;replace hpm:=hd hpm;refine zW tyQ ?_;refine zG (qA tyQ sL) λK5 V0=>?_;refine WE.con (R0.out H f fo _ F found q r hs.out hFc2.out hFl K9.out) λw' H2 f2⟨hw,fa,foa,qa,ra,L1⟩=>?_;subst hw;have U5:z.S<H2.nx:=by have:=f2.nx;omega
 have y8:=L1.row;clear G0 B_ l1 l2 hD;replace L1:=hd L1;replace f2:=hd f2;by_cases c3:F.length=B
 ·have ce3:((F.length:Int)==(B:Int))=true:=by rw[c3];exact dk _
  have hT:found++ns z B (itZ z B j F)=found++ns z B (itZ z B (j+1) F):=by rw[hI.out,ad c3,List.append_nil]
  replace hT:=hd hT;replace c3:=hd c3;refine zK tyQ ?_;exact fin.out _ _ _ _ (.inr rfl) qe f2.out hT.out ⟨fa,foa,qa,ra,L1.out⟩
 have ce3:((F.length:Int)==(B:Int))=false:=aF aa;have hFB:F.length+1<=B:=aa;have P6:=P6.out c3;have hT:found++ns z B (itZ z B j F)=found++ns z B (itZ z B (j+1) F)++ns z B (p.2.flatMap λs=>itZ z B (j+1) (KW z j F s)):=by rw[hI.out,ab c3,KZ,bL]
 have hl3:(found++ns z B (itZ z B (j+1) F)).length+(p.2.flatMap λs=>itZ z B (j+1) (KW z j F s)).length<=1000000000000:=by rw[aI];have:=Cr (z:=z) (B:=B) (l:=itZ z B (j+1) F);omega
 generalize found++ns z B (itZ z B (j+1) F)=fnd at L1 hT hl3;obtain⟨G,hG⟩:∃G,G=λs=>itZ z B (j+1) (KW z j F s):=⟨_,rfl⟩;rw[<-hG]at hT hl3;obtain⟨idl,gl,offl,cellsl,hle,W7,B7,J_⟩:=L1.out.dat.now.hl.open aa;obtain⟨hpu,p1,p2⟩:=J_ j p ep.out;rw[hle]at y8;clear P6 J_ hI;replace hG:=hd hG;replace hT:=hd hT;replace hle:=hd hle;replace hpu:=hd hpu;replace c3:=hd c3;refine zK (qA tyQ (ixC hjn)) ?_;refine R1.lq (λA5=>nh A5 z.S (dm A5 j (ju A5 F.length (nu A5 6 7 (p.1) (.i .i64 (0:Int)) 120 [])))) zL ?_;clear h0 h1 h2 tm V0 K5 W7 B7 p1 p2 y8;rintro A ⟨t0,t1,t2,t6,t7,z0,A0⟩;refine R1.dL λK k1 k2 k3 k4=>?_;refine R1.loop (λm A H3=>∃(i:Nat)(f fo:AC)(q r:Option Nat)(x:Int)(fn:List (List Fx)),m=p.2.length-i/\i<=p.2.length/\Fr (XU z) H2 H3/\US z B H3 f fo (.o (.sl z.W wg 0 z.v.length 1)) ((aY z.v F).set j x) F fn q r/\fn++ns z B ((p.2.drop i).flatMap G)=fnd++ns z B (p.2.flatMap G)/\fn.length+((p.2.drop i).flatMap G).length<=1000000000000/\nh A z.S (dm A j (ju A F.length (slot A.tm 6=.one (p.1)/\gU A i (A.nt=120/\A.dfr=[]))))) ?_ p.2.length
  ⟨0,fa,foa,qa,ra,z.v.getD j 0,fnd,rfl,Nat.zero_le _,Fr.refl _,by rw[KU hFc.out];exact L1.out,rfl,hl3,zL⟩
 clear t0 t1 t2 t6 t7 z0 A0 A hl3 U5 k3;rintro m A H3 ⟨i,f,fo,q,r,x,fn,rfl,U3,f3,s7,y_,M6,t0,t1,t2,t6,t7,z0,A0⟩;have hfH:Fr (XU z) H H3:=f2.out.then f3 λk hk=>.inr hk;have C_:z.S<H3.nx:=by have:=hfH.nx;omega
 have w8:=s7.row;obtain⟨idl,gl,offl,cellsl,hle3,W7,B7,J_⟩:=s7.dat.now.hl.open aa;have hpu:oF H3 p.1 p.2:=(J_ j p ep.out).1;clear W7 B7 J_ hle3;have l1:=hpu.len;have l2:=hpu.lt;replace s7:=hd s7;replace y_:=hd y_;replace M6:=hd M6;replace f3:=hd f3;replace hfH:=hd hfH;refine zW tyQ ?_;refine zI tyQ (λhc=>?_) (λhc=>?_)
 ·have B0:i<p.2.length:=aa;have ex:=aA B0;have M0:=List.drop_eq_getElem_cons B0;have Y1:=cK B0;have D0:=bW B0;generalize p.2[i]=s at ex M0 Y1 D0;have X1:=bB i;obtain⟨ids,gs,offs,cellss,hue,T6,hgrs,hats⟩:=hpu.open aa;have hx:=hats i s ex;have s0:=hx.f0;have s2:=hx.f2;have s3:=hx.le1;have s4:=hx.le3;obtain⟨nw,w_⟩:∃nw,nw=(aY z.v F).set j x:=⟨_,rfl⟩;have I8:=s7.out;rw[<-w_]at I8;have P8:nw.length=z.v.length:=by rw[w_,fl,dH]
  obtain⟨wg2,lo,hwe2,hWn,L7,hrg⟩:=I8.w.at (by rw[P8];omega);rw[P8]at hwe2;cases hwe2
  have S4:=setRow (AC.i .i64) nw j s.2.2 aa;have hle:j+1<=(nw.map (AC.i .i64)).length:=by rw[cP];omega
  have hsW:=I8.acw (now':=nw.set j s.2.2) (by rw[fl]) P8 hWn;have Y3:nw.set j s.2.2=(aY z.v F).set j s.2.2:=by rw[w_,List.set_set]
  rw[Y3]at hsW;rw[Y3]at S4;have y_:=y_.out;have M6:=M6.out;rw[M0,List.flatMap_cons,KZ]at y_;rw[M0,List.flatMap_cons,aI]at M6;have hGs:G s=itZ z B (j+1) (F++[((j:Int),z.v.getD j 0,s.2.2,s.1)]):=by rw[hG.out];rfl
  rw[hGs]at y_ M6;clear hats hx M0 Y1 D0 l1 l2;replace y_:=hd y_;replace M6:=hd M6;replace hGs:=hd hGs;replace P8:=hd P8;replace w_:=hd w_;replace Y3:=hd Y3;replace I8:=hd I8;replace hsW:=hd hsW;refine zW tyQ ?_;refine R1.dL λK2 q1 q2 q3 q4=>?_;refine zG (zDg tyQ (ixC B0) (ixC hjn) S4 cr hle) λK5 V0=>?_;apply V0.out;refine R1.gen (λA5 H5=>Fr (λk=>k=z.W) H3 H5/\US z B H5 f fo (.o (.sl z.W wg 0 z.v.length 1)) ((aY z.v F).set j s.2.2) F fn q r/\nh A5 z.S (dm A5 j (ju A5 F.length (slot A5.tm 6=.one (p.1)/\gU A5 i (A5.nt=120/\A5.dfr=[]))))) ⟨(Fr.refl _).mod _ (.inr rfl),hsW.out,zL⟩ ?_;clear t0 t1 t2 t6 t7 z0 A0 A V0 K5 S4 hle hsW hrg L7 s0 s2 s3 s4 hgrs T6 w8 hue;rintro A H5 ⟨f5,k8,t0,t1,t2,t6,t7,z0,A0⟩;have hS5:z.S<H5.nx:=by have:=f5.nx;omega
  have q8:=k8.row;have P9:=k8.dat.now;obtain⟨idl,gl,offl,cellsl,hle5,W7,B7,J_⟩:=P9.hl.open aa;have hpu5:oF H5 p.1 p.2:=(J_ j p ep.out).1;obtain⟨ids,gs,offs,cellss,hue,T6,hgrs,hats⟩:=hpu5.open aa;have hx:=hats i s ex;have s0:=hx.f0;have s2:=hx.f2;have s3:=hx.le1;have s4:=hx.le3;obtain⟨idv,gv,offv,cellsv,hve,T4,V4,C7⟩:=P9.hv.open aa;obtain⟨e3,e4⟩:=C7 j _ (Uw hjn);rw[hve]at q8;obtain⟨lf,f6,H6,q6,B1,hx6,X6,L'⟩:=k8.x.push (x:=((j:Int),z.v.getD j 0,s.2.2,s.1)) aa;have V_:=k8.acv X6 hx6 (λk hk=>by cases hk;exact L');have hS6:z.S<H6.nx:=by have:=X6.nx;omega
  have E5:H6.get z.S=some (.arr [z.k,z.a,z.b,z.vv,.o (.sl z.W wg 0 z.v.length 1),f,z.la,.i .i64 (B:Int),fo] 165 0 0):=(X6.get _ hS5 λhh=>by have:=k8.qn _ hh;omega).trans k8.row;have hfr7:∀o,Fr (XU z) H5 (H6.mod z.S o):=λo=>((Fr.none (Fr.refl H5)).then X6 λk hk=>.inr (.inr (.inr (k8.qn k hk)))).mod _ (.inr (.inl rfl));have hset2:(aY z.v F).set j s.2.2=aY z.v (F++[((j:Int),z.v.getD j 0,s.2.2,s.1)]):=(Sh (x:=((j:Int),z.v.getD j 0,s.2.2,s.1)) rfl).symm;have hlF:(F++[((j:Int),z.v.getD j 0,s.2.2,s.1)]).length=F.length+1:=by rw[aI,List.length_singleton]
  clear J_ hle5 W7 B7 hats hx C7;replace k8:=hd k8;replace V_:=hd V_;replace hx6:=hd hx6;replace X6:=hd X6;replace L':=hd L';replace hfr7:=hd hfr7;replace hset2:=hd hset2;replace hlF:=hd hlF;replace hve:=hd hve;replace P9:=hd P9;refine zG (zDe tyQ (ixC B0) (ixC hjn) jU) λK5 V0=>?_;apply V0.out;refine R1.gen (λA7 H7=>Fr (XU z) H5 H7/\US z B H7 f6 fo (.o (.sl z.W wg 0 z.v.length 1)) ((aY z.v F).set j s.2.2) (F++[((j:Int),z.v.getD j 0,s.2.2,s.1)]) fn (some q6) r/\nh A7 z.S (dm A7 j (ju A7 F.length (slot A7.tm 6=.one (p.1)/\gU A7 i (A7.nt=120/\A7.dfr=[]))))) ⟨hfr7.out _,V_.out,zL⟩ ?_;clear t0 t1 t2 t6 t7 z0 A0 A V0 K5 B1 lf s0 s2 s3 s4 hgrs T6 hue q8 E5 T4 V4 e3 e4 hS6 hS5;rintro A H7 ⟨f7,V_,t0,t1,t2,t6,t7,z0,A0⟩;rw[hset2.out]at V_;have hF1:=R0.out H7 f6 fo _ (F++[((j:Int),z.v.getD j 0,s.2.2,s.1)]) fn (some q6) r V_ (λy hy=>by
   rcases List.mem_append.1 hy with hy|hy
   ·exact hFc2.out y hy
   rw[List.mem_singleton.1 hy];show 0<=(j:Int)/\(j:Int)<((j+1:Nat):Int);omega) (by rw[hlF.out];omega) (by have:=M6.out;omega)
  rw[hlF.out]at hF1;replace V_:=hd V_;replace hF1:=hd hF1;refine zG (qA tyQ sL) λK5 V0=>?_;refine WE.con hF1.out λw' H8 f8⟨hw,f9,fo9,q9,r9,hs9⟩=>?_;subst hw;obtain⟨id9,g9,j5,hq9,hx9⟩:=hs9.x.pop;subst j5;have T5:z.S<H8.nx:=by have:=hs9.dat.n;omega
  have hrow8:=hs9.row;have hs10:=hs9.acv (H':=H8) (f':=.o (.sl id9 g9 0 F.length 4)) (F':=F) (q':=q9) (Fr.refl _) hx9 λk hk=>.inl hk;rw[<-hset2.out]at hs10;have hws:IntKind.i64.wrap (((F.length+1:Nat):Int)-1)=((F.length:Nat):Int):=by rw[gE aa aa];omega
  have k9:∀o,Fr (XU z) H3 (H8.mod z.S o):=λo=>((((Fr.none (Fr.refl H3)).then f5 λk hk=>.inr (.inr (.inl hk))).then f7 λk hk=>.inr hk).then f8 λk hk=>.inr hk).mod _ (.inr (.inl rfl));have l9:id9<H8.nx:=by rw[hq9]at hx9;exact hx9.rlt
  replace hs9:=hd hs9;replace hs10:=hd hs10;replace hx9:=hd hx9;replace hq9:=hd hq9;replace k9:=hd k9;replace f5:=hd f5;replace f7:=hd f7;replace f8:=hd f8;refine zK tyQ ?_;refine zG (qA tyQ (slH (Nat.le_succ F.length))) λK5 V0=>?_;apply V0.out;apply q1.out;refine zW tyQ ?_;exact⟨p.2.length-(i+1),aa,i+1,_,fo9,q9,r9,s.2.2,_,rfl,B0,f3.out.then (k9.out _) λk hk=>.inr hk,hs10.out,by rw[bL];exact y_.out,by rw[aI];have:=M6.out;have:=Cr (z:=z) (B:=B) (l:=itZ z B (j+1) (F++[((j:Int),z.v.getD j 0,s.2.2,s.1)]));omega,zL⟩
 have U0:i=p.2.length:=aa;have y_:=y_.out;rw[U0,ct]at y_;have y_:fn=fnd++ns z B (p.2.flatMap G):=by rw[<-y_];exact(List.append_nil _).symm
 obtain⟨nw,w_⟩:∃nw,nw=(aY z.v F).set j x:=⟨_,rfl⟩;have I8:=s7.out;rw[<-w_]at I8;have P8:nw.length=z.v.length:=by rw[w_,fl,dH]
 obtain⟨wg2,lo,hwe2,hWn,L7,hrg⟩:=I8.w.at (by rw[P8];omega);rw[P8]at hwe2;cases hwe2
 have S4:=setRow (AC.i .i64) nw j (z.v.getD j 0) aa;have hle:j+1<=(nw.map (AC.i .i64)).length:=by rw[cP];omega
 have hsW:=I8.acw (now':=nw.set j (z.v.getD j 0)) (by rw[fl]) P8 hWn;have Y3:nw.set j (z.v.getD j 0)=aY z.v F:=by rw[w_,List.set_set,KU hFc.out]
 rw[Y3]at hsW;rw[Y3]at S4;have hD3:=I8.dat.now;obtain⟨idv,gv,offv,cellsv,hve,T4,V4,C7⟩:=hD3.hv.open aa;obtain⟨e3,e4⟩:=C7 j _ (Uw hjn);rw[cr]at e3 e4;rw[hve]at w8;have k9:∀o,Fr (XU z) H (H3.mod z.W o):=λo=>hfH.out.mod _ (.inr (.inr (.inl rfl)));clear l1 l2 C7;replace y_:=hd y_;replace U0:=hd U0;replace P8:=hd P8;replace w_:=hd w_;replace Y3:=hd Y3;replace I8:=hd I8;replace hsW:=hd hsW;replace k9:=hd k9;replace hve:=hd hve;replace hD3:=hd hD3;refine zW tyQ ?_;apply k2.out;refine zG (zDf tyQ (ixC hjn) S4 cr hle) λK5 V0=>?_;apply V0.out;exact fin.out fn _ _ _ (.inl rfl) qe (k9.out _) (by rw[hT.out,y_.out]) ⟨f,fo,q,r,hsW.out⟩
def Yn{nm:List UInt8}{us:List Pr}(L0:aP nm us=0){n:Int}(J3:1<=n)(W3:n<=1099511627776){out:List Sp}
  (hc:CL nm us n (fX (az us n) ((cR 1 us).getD []) n us.length) out) (hb:∀m∈fX (az us n) ((cR 1 us).getD []) n us.length,kQ nm us n m->jS out m=false) (x:Sp):x∈out↔x∈gM us (az us n) (eY nm us) n:=by
 rw[wL L0 J3];constructor
 ·intro hx;obtain⟨h1,h2,h3⟩:=hc.mem x hx;have ho:=Jr h2;refine⟨ho,h3,?_⟩;have:=Hw L0 J3 W3 ho;rw[this]at h3;have e:x.1=iQ nm us x.2.2 n:=congrArg Prod.fst h3;rw[e];exact h2
 rintro⟨h1,h2,h3⟩;have hg:kQ nm us n x.2.2:=by unfold kQ;have:=Hw L0 J3 W3 h1;rw[this]at h2;have e:x.1=iQ nm us x.2.2 n:=congrArg Prod.fst h2;rw[<-e];exact h3
 have hm:=Nk L0 ((wL L0 J3 x).2 ⟨h1,h2,h3⟩);rcases hc.all _ hm hg with hf|⟨y,hy,e⟩
 ·rw[hb _ hm hg]at hf;cases hf
 have hy2:=(hc.mem y hy).2.2;rw[e,<-h2]at hy2;rw[<-hy2];exact hy
def JD:∀{S:List Sp},List.Pairwise (λx y:Sp=>x.2.2≠y.2.2) S->∀x∈S,iO S x.2.2=x.1
 |[],_,_,h=>absurd h List.not_mem_nil
 |y::S,hp,x,hx=>by
  obtain⟨h1,h2⟩:=List.pairwise_cons.1 hp;rw[iO];rcases List.mem_cons.1 hx with rfl|hx
  ·rw[ad rfl]
  rw[ab (h1 x hx),JD h2 x hx]
structure NV(l:Lad)(n:Int)(out:List Sp):Prop where
 len:out.length<=48
 cho:CL l.1 l.2 n (fX (az l.2 n) ((cR 1 l.2).getD []) n l.2.length) out
 end_:∀m∈fX (az l.2 n) ((cR 1 l.2).getD []) n l.2.length,kQ l.1 l.2 n m->jS out m=false
def oD(ls:List Lad)(lc:List Cl)(lr:List Rl)(v:List Int)(j:Nat)(l:List Sp):Prop:=if fv 0 lr (j:Int)<0/\nR (j:Int) lr=true then NV (bX (some ls) (gX lc (j:Int))) (v.getD j 0) l else l=[]
def xW(z:Ug)(j:Nat)(l:List Sp):Prop:=oD z.ls z.lc z.lr z.v j l
def xW.len{z:Ug}{j:Nat}{l:List Sp}(h:xW z j l):l.length<=48:=by
 unfold xW oD at h;by_cases c:fv 0 z.lr (j:Int)<0/\nR (j:Int) z.lr=true
 ·rw[ad c]at h;exact h.len
 rw[ab c]at h;rw[h];exact Nat.zero_le _
def Vy{z:Ug}(E0:mu (ldC z.ls z.lc) z.lr z.v)(hL:z.L.length=z.v.length)(h:∀(j:Nat) (p:AC×List Sp),z.L[j]?=some p->xW z j p.2):LOk z.v z.lr (KFz z) (Lz z):=by
 have key:∀(j:Nat)(l:List (Int×Int)),(Lz z)[j]?=some l->j<z.v.length/\∃out,xW z j out/\l=out.map λs:Sp=>(s.2.2,s.1):=λj l hl=>by
  unfold Lz at hl;rw[pV]at hl;cases hp:z.L[j]? with
  |none=>rw[hp]at hl;cases hl
  |some p=>
   rw[hp]at hl;cases hl
   exact⟨by rw[<-hL];exact(List.getElem?_eq_some_iff.1 hp).1,p.2,h j p hp,rfl⟩
 have lad:∀j:Nat,j<z.v.length->(ldC z.ls z.lc).getD j ([],[])=bX (some z.ls) (gX z.lc (j:Int)):=λj hj=>by have Z1:=E0.vl;rw[py]at Z1;exact Mw (i:=(j:Int)) aa aa
 have nums:∀j:Nat,j<z.v.length->1<=z.v.getD j 0/\z.v.getD j 0<=1099511627776:=λj hj=>(E0.lad (i:=(j:Int)) aa aa).2;have chk:∀j:Nat,j<z.v.length->aP (bX (some z.ls) (gX z.lc (j:Int))).1 (bX (some z.ls) (gX z.lc (j:Int))).2=0:=λj hj=>by rw[<-lad j hj];exact(E0.lad (i:=(j:Int)) aa aa).1
 have kfe:∀j:Nat,j<z.v.length->∀to,KFz z (j:Int) to=iO (gM (bX (some z.ls) (gX z.lc (j:Int))).2 (az (bX (some z.ls) (gX z.lc (j:Int))).2 (z.v.getD j 0)) (eY (bX (some z.ls) (gX z.lc (j:Int))).1 (bX (some z.ls) (gX z.lc (j:Int))).2) (z.v.getD j 0)) to:=λj hj to=>by unfold KFz kF;rw[uM,lad j hj]
 refine⟨by unfold Lz;rw[cP,hL],λl hl=>?_,λj l hl s=>?_⟩
 ·obtain⟨j,hj⟩:=wU hl;obtain⟨hjv,out,ho,rfl⟩:=key j l hj;unfold xW oD at ho;by_cases c:fv 0 z.lr (j:Int)<0/\nR (j:Int) z.lr=true
  ·rw[ad c]at ho;exact List.pairwise_map.2 (ho.cho.ord.imp λ{x y}hxy e=>by have:x.2.2=y.2.2:=congrArg Prod.fst e;omega)
  rw[ab c]at ho;rw[ho];exact List.nodup_nil
 obtain⟨hjv,out,ho,rfl⟩:=key j l hl;obtain⟨n1,n2⟩:=nums j hjv;rw[kfe j hjv];have L0:=chk j hjv;unfold xW oD at ho;generalize bX (some z.ls) (gX z.lc (j:Int))=ld at *;have hpw:=WS L0 n1;have he:=λx=>(wL L0 n1 x);by_cases c:fv 0 z.lr (j:Int)<0/\nR (j:Int) z.lr=true
 ·rw[ad c]at ho;have hm:=Yn L0 n1 n2 ho.cho ho.end_;rw[List.mem_map];constructor
  ·rintro⟨x,hx,rfl⟩;have hx:=(hm x).1 hx;have hk:=JD hpw x hx;exact⟨xN.1 c.2,hk.symm,((he x).1 hx).2.2⟩
  rintro⟨_,h2,h3⟩;obtain⟨x,hx,e1,e2⟩:=vT (by rw[<-h2];exact h3);refine⟨x,(hm x).2 hx,?_⟩;rw[e1,e2,<-h2]
 rw[ab c]at ho;rw[ho];constructor
 ·intro h;exact absurd h List.not_mem_nil
 rintro⟨⟨r,hr,hm⟩,_,_⟩;exfalso;refine c ⟨Int.not_le.1 λhs=>?_,xN.2 ⟨r,hr,hm⟩⟩;obtain⟨r',T3,e⟩:=OV.1 hs;exact E0.rp.tp r' T3 r hr (by rw[e];exact hm)
def pA{α:Type}:List (List α)->Nat
 |[]=>0
 |l::L=>l.length+pA L
def Pd{α:Type}{M:Nat}:∀{L:List (List α)},(∀l∈L,l.length<=M)->pA L<=L.length*M
 |[],_=>by rw[pA,List.length_nil];omega
 |l::L,h=>by have h1:=h l (aT ..);have h2:=Pd λx hx=>h x (aR _ hx);rw[pA,List.length_cons,pW];omega
def OQ{α β:Type}{M:Nat}{f:α->List β}:∀{l:List α},(∀x∈l,(f x).length<=M)->(l.flatMap f).length<=l.length*M
 |[],_=>by rw[List.flatMap_nil,List.length_nil];omega
 |x::l,h=>by have h1:=h x (aT ..);have h2:=OQ λy hy=>h y (aR _ hy);rw[List.flatMap_cons,aI,List.length_cons,pW];omega
def GH{v:List Int}{B:Nat}:∀(L:List (List (Int×Int)))(j:Nat)(F:List Fx),F.length<=B->(itR v B j L F).length<=(1+pA L)^(B-F.length)
 |[],j,F,h=>by rw[itR,ab aa,List.length_singleton,pA];exact Nat.pos_of_ne_zero (by rw[Nat.add_zero,Nat.one_pow];decide)
 |l::L,j,F,h=>by
  have i1:=GH (v:=v) (B:=B) L (j+1) F h;rw[itR,ab aa,aI,pA];by_cases c:F.length=B
  ·rw[ad c];rw[c,ga,Nat.pow_zero]at i1 |-;rw[List.length_nil];omega
  rw[ab c];obtain⟨m,hm⟩:∃m,B-F.length=m+1:=⟨B-F.length-1,aa⟩;have i2:(l.flatMap λs=>itR v B (j+1) L (F++[((j:Int),v.getD j 0,s.1,s.2)])).length<=l.length*(1+pA L)^m:=OQ λs _=>by have:=GH (v:=v) (B:=B) L (j+1) (F++[((j:Int),v.getD j 0,s.1,s.2)]) (by rw[aI,List.length_singleton];omega);rw[aI,List.length_singleton]at this;have e:B-(F.length+1)=m:=aa;rwa [e]at this
  rw[hm]at i1 |-;have h1:(1+pA L)^m<=(1+(l.length+pA L))^m:=Nat.pow_le_pow_left aa m;have h2:(1+pA L)^(m+1)+l.length*(1+pA L)^m=(1+pA L)^m*(1+(l.length+pA L)):=by rw[Nat.pow_succ,Ac l.length,<-Nat.mul_add];congr 1;omega
  have h3:(1+pA L)^m*(1+(l.length+pA L))<=(1+(l.length+pA L))^(m+1):=by rw[Nat.pow_succ];exact lD _ h1
  omega
def OW{z:Ug}{B:Nat}(hB:B<=3)(hL:z.L.length<=64)(hl:∀p∈z.L,p.2.length<=48):(itZ z B 0 []).length<=1000000000000:=by
 unfold itZ;rw[List.drop_zero];have h1:=GH (v:=z.v) (B:=B) (Lz z) 0 [] (Nat.zero_le _);have h2:pA (Lz z)<=3072:=by
  have:=Pd (L:=Lz z) (M:=48) λl hm=>by unfold Lz at hm;obtain⟨p,hp,rfl⟩:=List.mem_map.1 hm;rw[cP];exact hl p hp
  have e:(Lz z).length=z.L.length:=by unfold Lz;rw[cP]
  rw[e]at this;omega
 rw[List.length_nil,Nat.sub_zero]at h1;have h3:(1+pA (Lz z))^B<=3073^B:=Nat.pow_le_pow_left aa B;have h4:3073^B<=3073^3:=Nat.pow_le_pow_right aU hB;omega
def Ex{z:Ug}(E0:mu (ldC z.ls z.lc) z.lr z.v)(l8:∀x∈z.ls,x.2.length<=1000000)(q_:z.ls.length<=1000000){B:Nat}(hB:B<=3)(hLn:z.L.length=z.v.length)(hLs:∀p∈z.L,p.2.length<=1000):∀(d j:Nat),j+d=z.v.length->IcC z B j
 |0,j,h=>BI E0 l8 q_ hB hLn hLs aa λh=>aa
 |d+1,j,h=>BI E0 l8 q_ hB hLn hLs aa λ_=>Ex E0 l8 q_ hB hLn hLs d (j+1) aa
def LP:ao prog 76=true:=ae
def LW:ao prog 75=true:=ae
def TA:ao prog 73=true:=ae
structure ULs(ls:List Lad)(lc:List Cl)(lr:List Rl)(v:List Int)(L:List (AC×List Sp)):Prop where
 c:∀(j:Nat)(p:AC×List Sp),L[j]?=some p->oD ls lc lr v j p.2
def ULs.push{ls:List Lad}{lc:List Cl}{lr:List Rl}{v:List Int}{L:List (AC×List Sp)}{p:AC×List Sp}(h:ULs ls lc lr v L)(hp:oD ls lc lr v L.length p.2):ULs ls lc lr v (L++[p]):=⟨λj x hx=>by
 rcases cL j L.length with hj|hj
 ·rw[iw hj]at hx;exact h.c j x hx
 rw[lE hj]at hx;have e:j=L.length:=by have:=(List.getElem?_eq_some_iff.1 hx).1;rw[List.length_singleton]at this;omega
 subst e;rw[ga]at hx;cases hx
 exact hp⟩
def aby{c:Code}(hc:atF Tryz.f43 [1,1,1,1,0,1]=some c){ls:List Lad}{lc:List Cl}{lr:List Rl}{v:List Int}(E0:mu (ldC ls lc) lr v)(l8:∀x∈ls,x.2.length<=1000000)(q_:ls.length<=1000000)
  {k a b w ww:AC} {P S W B L:Nat} {H:Hp} {A:ag} {K:au->ag->Hp->Prop} (hB:B<=3) (hL:L<=100)
  (hk:RBk H k ls) (ha:dD H a lc) (hb:ei H b lr) (hw:SlI H w v) (hn:(P<S/\S<H.nx)/\W<H.nx/\S≠W)
  (b_:∀H',H.nx<=H'.nx->(∀i,i<H.nx->i≠S->i≠W->H'.get i=H.get i)->(RBk H' k ls/\dD H' a lc)/\ei H' b lr/\SlI H' w v)
  (hP:H.get P=some (.arr [a,b] 26 0 0))
  (G0:H.get S=some (.arr [k,a,b,w,ww,.o .nilS,.o .nilS,.i .i64 0,.o .nilS] 165 0 0))
  (hs:eQ A.tm 0 2 (k) (w) (jz A B L (fM A P (iA A S (eO A 14 (.i .i64 (0:Int)) 187 [])))))
  (hK:∀(A2:ag)(H2:Hp)(la:AC)(LL:List (AC×List Sp))(r:Option Nat),Fr (λi=>i=S) H H2->H2.get S=some (.arr [k,a,b,w,ww,.o .nilS,la,.i .i64 0,.o .nilS] 165 0 0)->gh SsR 1 59 (λi=>i=S\/i=W) H2 la LL r->LL.length=v.length->ULs ls lc lr v LL->eQ A2.tm 0 2 (k) (w) (jz A2 B L (fM A2 P (iA A2 S (A2.nt=187/\A2.dfr=[]))))->K .normal A2 H2):R1 E2 none c A H K:=by
 cases hc
 obtain⟨t0,t2,t3,t4,t6,t13,t14,z0,A0⟩:=hs;clear hk ha hb hw;replace hK:=hd hK;replace b_:=hd b_;have Z1:=E0.vl;rw[py]at Z1;have hv64:=E0.v64;have hr64:=E0.r64;replace Z1:=hd Z1;refine R1.mD λK1 k1 k2 k3 k4=>?_;refine R1.loop (λm A H2=>∃(i:Nat)(la:AC)(LL:List (AC×List Sp))(r:Option Nat),m=v.length-i/\i<=v.length/\Fr (λi=>i=S) H H2/\H2.get S=some (.arr [k,a,b,w,ww,.o .nilS,la,.i .i64 0,.o .nilS] 165 0 0)/\gh SsR 1 59 (λi=>i=S\/i=W) H2 la LL r/\(∀q,r=some q->H.nx<=q)/\LL.length=i/\ULs ls lc lr v LL/\eQ A.tm 0 2 (k) (w) (jz A B L (fM A P (iA A S (eO A 14 (.i .i64 (i:Int)) 187 []))))) ?_ v.length
  ⟨0,.o .nilS,[],none,rfl,Nat.zero_le _,Fr.refl _,G0,gh.nil,(λ_ h=>by cases h),rfl,⟨λj p hp=>by cases hp⟩,t0,t2,t3,t4,t6,t13,t14,z0,A0⟩
 clear t0 t2 t3 t4 t6 t13 t14 z0 A0 A G0 k3;rintro m A H2 ⟨i,la,LL,r,rfl,U3,hf,G0,ho,O8,hlen,Y4,t0,t2,t3,t4,t6,t13,t14,z0,A0⟩;have hgn:=hf.nx;have hdat2:∀H',H2.nx<=H'.nx->(∀i,i<H2.nx->i≠S->i≠W->H'.get i=H2.get i)->(RBk H' k ls/\dD H' a lc)/\ei H' b lr/\SlI H' w v:=λH' n g=>b_.out H' (aS hgn n) λi hi h1 h2=>(g i aa h1 h2).trans (hf.get i hi h1);obtain⟨⟨hk,ha⟩,hb,hw⟩:=hdat2 H2 (ai _) λ_ _ _ _=>rfl;have l1:=hw.len;have l2:=hw.lt;have la1:=ha.lt;have hP2:H2.get P=some (.arr [a,b] 26 0 0):=(hf.get P aa aa).trans hP;have hPn:P<H2.nx:=aa;replace hdat2:=hd hdat2;replace hf:=hd hf;replace Y4:=hd Y4;replace hlen:=hd hlen;replace ho:=hd ho;replace O8:=hd O8;refine zW tyQ ?_;refine zI tyQ (λhc=>?_) (λhc=>?_)
 ·have B0:i<v.length:=aa;have X1:=bB i;refine zW tyQ ?_;refine R1.dL λK2 q1 q2 q3 q4=>?_;refine zG tyQ λK0 hK0=>?_;apply hK0.out;refine R1.tV (λB5 H5=>∃(u:AC)(l:List Sp),Gr H2 H5/\oF H5 u l/\(∀id∈(AV.one u).ids,H2.nx<=id)/\oD ls lc lr v i l/\eQ B5.tm 0 2 (k) (w) (jz B5 B L (fM B5 P (iA B5 S (nu B5 14 15 (.i .i64 (i:Int)) (u) 187 []))))) (λK4 w1 w2 w3=>?_) ?_
  ·have hPl:∀r∈lr,r.2.length<=1000000:=λr hr=>by have:=E0.rp.pl r hr;omega
   replace hPl:=hd hPl;refine zG (qA tyQ TA) λK5 V0=>?_;refine WE.con (mR H2 a b lr (i:Int) hb la1 aa) λw' H3 g3 hq=>?_;subst hq;obtain⟨hP3,hPn3⟩:=bD g3 hPn hP2;have la3:=(ha.gr g3).lt;have Y':=hb.gr g3;by_cases c1:fv 0 lr (i:Int)<0
   case neg=>
    have M1:oD ls lc lr v i []:=by unfold oD;rw[ab λh=>c1 h.1]
    replace M1:=hd M1;refine zK tyQ ?_;exact w1.out _ _ ⟨.o .nilS,[],g3,oF.nil,(λ_ h=>by cases h),M1.out,zL⟩
   refine zS (qA tyQ Yc) ?_;refine WE.con (Xu H3 a b (i:Int) lr Y' la3 aa hPl.out) λw' H4 g4 hq=>?_;subst hq;obtain⟨hP4,hPn4⟩:=bD g4 hPn3 hP3;have g24:=g3.gr g4;have lb4:=(hb.gr g24).lt;have D8:=hk.gr g24;have ha4:=ha.gr g24;have hw4:=hw.gr g24;clear hP2 hPn hP3 hPn3 la3 Y' la1 l1 l2;replace D8:=hd D8;replace ha4:=hd ha4;cases c2:nR (i:Int) lr with
   |false=>
    have M1:oD ls lc lr v i []:=by unfold oD;rw[ab λh=>by rw[c2]at h;cases h.2]
    replace M1:=hd M1;replace c1:=hd c1;replace c2:=hd c2;refine zK tyQ ?_;exact w1.out _ _ ⟨.o .nilS,[],g24,oF.nil,(λ_ h=>by cases h),M1.out,zL⟩
   |true=>
    obtain⟨idv,gv,offv,cellsv,rfl,T4,V4,C7⟩:=hw4.open aa;obtain⟨e3,e4⟩:=C7 i _ (Uw B0);have S1:=Z1.out;obtain⟨y,ey⟩:∃y,lc[((i:Nat):Int).toNat]?=some y:=⟨_,aA (by rw[uM];omega)⟩;have A6:(0:Int)<=(i:Int):=aa;have hil2:(i:Int)<lc.length:=aa;have eL:gX lc (i:Int)=y.2.2.1:=by unfold gX;rw[ey];rfl
    have hld:=E0.lad (i:=(i:Int)) aa aa;rw[Mw (i:=(i:Int)) aa hil2,eL,uM]at hld;have M1:∀l,NV (bX (some ls) y.2.2.1) (v.getD i 0) l->oD ls lc lr v i l:=λl h=>by unfold oD;rw[ad ⟨c1,c2⟩,eL];exact h
    clear C7 S1;replace M1:=hd M1;replace c1:=hd c1;replace c2:=hd c2;replace eL:=hd eL;refine zK tyQ ?_;refine zO (qA tyQ LP) λK6 hK6=>?_;refine WE.po (Fj H4 k a b ls lc (i:Int) y D8.out l8 q_ ha4.out lb4 A6 hil2 ey) λw' H5 g5⟨u,hw,hu⟩=>?_;subst hw;have g25:=g24.gr g5;have hidv5:=ax T4 g5.nx;have hgrv5:rowOf (H5.get idv) gv=some cellsv:=by rw[g5.get _ T4 aE];exact V4
    replace ey:=hd ey;refine zQ (zDd tyQ (ixC B0) LW) ?_;refine WE.po (KF H5 _ u _ (v.getD i 0) hu hld.1 hld.2.1 hld.2.2) λw' H6 g6⟨c,out,hw,O6,I9,hcho,M5,T6⟩=>?_;subst hw;have hce:=M1.out out ⟨I9,hcho,M5⟩;have g26:=g25.gr g6;have hids2:∀id∈(AV.one c).ids,H2.nx<=id:=λid h=>aS g25.nx (T6 id h);clear hcho M5 I9 T6;replace hce:=hd hce;replace O6:=hd O6;replace hids2:=hd hids2;refine zQ tyQ ?_;apply hK6.out;exact w1.out _ _ ⟨c,out,g26,O6.out,hids2.out,hce.out,zL⟩
  clear t0 t2 t3 t4 t6 t13 t14 z0 A0 A hk ha hb hw l1 l2 la1 hP2 hPn hc;rintro A H5 ⟨u,l,g5,O6,T6,M1,t0,t2,t3,t4,t6,t13,t14,t15,z0,A0⟩;have hS5:S<H5.nx:=by have:=g5.nx;omega
  have q8:=(g5.get S aa aE).trans G0;obtain⟨zz,hz,Q1⟩:=XK;have j9:=hlen.out;have l_:=ho.out.gr Gw GQ g5;obtain⟨R6,v9,H9,r9,B1,Q7,j5,P7⟩:=l_.push (P:=prog) (t:=163) Gw GQ Gq TO hz Q1 aU (λj hj=>by have:=g5.nx;rcases hj with h|h<;>omega) (c0:=[u]) (x:=(u,l)) rfl ⟨rfl,O6⟩ (λid hid=>by rw[re]at hid;have h1:=T6 id hid;refine⟨λh=>by rcases h with h|h<;>omega,λe=>?_⟩;have:=(ho.out.row id e.symm).2;omega) (by rw[j9];omega)
  clear hz Q1 zz;have hrq:∀q,r=some q->q≠S:=λq hq e=>(ho.out.row q hq).1 (.inl e);have L6:=(j5.get S hS5 λh=>hrq S h rfl).trans q8;have hS9:S<H9.nx:=by have:=j5.nx;omega
  have hf59:Fr (λi=>i=S) H H9:=((hf.out.then g5 λ_ h=>h.elim).then j5 λq hq=>.inl (O8.out q hq));have hf10:∀o,Fr (λi=>i=S) H (H9.mod S o):=λo=>hf59.mod _ (.inr rfl);have ho10:∀o,gh SsR 1 59 (λi=>i=S\/i=W) (H9.mod S o) v9 (LL++[(u,l)]) (some r9):=λo=>Q7.fr Gw GQ ((Fr.refl (X:=λi=>i=S) H9).mod _ (.inr rfl)) λi hi=>.inl (.inl hi);have hul2:=Y4.out.push (p:=(u,l)) (by rw[j9];exact M1);have hrn9:∀q,some r9=some q->H.nx<=q:=λq hq=>by
   cases hq
   exact P7.elim (O8.out r9) λh=>by have:=g5.nx;omega
  clear T6 M1 O6 l_;replace Q7:=hd Q7;replace ho10:=hd ho10;replace hf10:=hd hf10;replace hf59:=hd hf59;replace j5:=hd j5;replace P7:=hd P7;replace hul2:=hd hul2;replace hrn9:=hd hrn9;replace j9:=hd j9;replace hrq:=hd hrq;refine zG (zDd tyQ jU LB) λK5 V0=>?_;try refine⟨R6,?_⟩
  refine zK tyQ ?_;apply q1.out;refine zW tyQ ?_;exact⟨v.length-(i+1),aa,i+1,v9,LL++[(u,l)],some r9,rfl,B0,hf10.out _,aq rfl,ho10.out _,hrn9.out,by rw[aI,List.length_singleton,j9.out],hul2.out,zL⟩
 have U0:i=v.length:=aa;refine zW tyQ ?_;apply k2.out;exact hK.out _ _ la LL r hf.out G0 ho.out (by rw[hlen.out,U0]) Y4.out zL
def iq(z:Ug)(B:Nat):List (List Fx):=ns z B (itZ z B 0 [])
structure UOk(z:Ug):Prop where
 ok:mu (ldC z.ls z.lc) z.lr z.v
 l1:∀x∈z.ls,x.2.length<=1000000
 l2:z.ls.length<=1000000
 ln:z.L.length=z.v.length
 lc:∀(j:Nat)(p:AC×List Sp),z.L[j]?=some p->xW z j p.2
def UOk.len{z:Ug}(h:UOk z):∀p∈z.L,p.2.length<=48:=λp hp=>by obtain⟨j,hj⟩:=wU hp;exact(h.lc j p hj).len
def BH{z:Ug}(h:UOk z){B:Nat}(hB:B<=3)(H:Hp)(f fo ww:AC)(q r:Option Nat)(hs:US z B H f fo ww (aY z.v []) [] [] q r):
  Con E2 77 [.one (.o (.ptr z.S 0 0 9)),.one (.i .i64 0),.one (.i .i64 0)] H (XU z) λw H'=>w=.tup []/\ItQ z B ww [] (iq z B) H':=by
 have hv:=h.ok.v64;have I9:=h.ln;have:=Ex h.ok h.l1 h.l2 hB h.ln (λp hp=>by have:=h.len p hp;omega) z.v.length 0 (Nat.zero_add _) H f fo ww [] [] q r hs (λx hx=>by cases hx) (Nat.zero_le _) (by have:=OW (z:=z) hB aa h.len;rw[List.length_nil];omega)
 exact this
def US.setB{z:Ug}{B B':Nat}{H:Hp}{f fo ww:AC}{now:List Int}{F:List Fx}{found:List (List Fx)}{q r:Option Nat}(h:US z B H f fo ww now F found q r):US z B' (H.mod z.S (.arr [z.k,z.a,z.b,z.vv,ww,f,z.la,.i .i64 (B':Int),fo] 165 0 0)) f fo ww now F found q r:=by
 have hn:=h.dat.n;have hs:Fr (λk=>k=z.S) H (H.mod z.S (.arr [z.k,z.a,z.b,z.vv,ww,f,z.la,.i .i64 (B':Int),fo] 165 0 0)):=(Fr.refl _).mod _ (.inr rfl);exact⟨h.dat.fr hs λk hk=>.inl hk,aq rfl,h.w.fr hs λ(hh:z.W=z.S)=>hn.1.2.2 hh.symm,
  h.x.fr hs λi hi(e:i=z.S)=>by have:=h.qn i hi;omega,h.qn,h.fo.fr pt nY hs λi(hi:i=z.S)=>.inl (.inl aa)⟩
def ZK{c:Code}(hc:atF Tryz.f43 [1,1,1,1,1,0,1]=some c){z:Ug}(hz:UOk z){B L:Nat}{H:Hp}{A:ag}{K:au->ag->Hp->Prop}{f fo ww:AC}{q r:Option Nat}(hB:B<=3)
  (hs0:US z 0 H f fo ww (aY z.v []) [] (iq z 0) q r)
  (hs:jz A B L (iA A z.S (A.nt=187/\A.dfr=[])))
  (hK:∀(A2:ag)(H2:Hp)(f fo:AC)(q r:Option Nat)(cc:Nat),Fr (XU z) H H2->US z cc H2 f fo ww (aY z.v []) [] (iq z cc) q r->cc<=B->(∀c'<cc,iq z c'=[])->(iq z cc≠[]\/cc=B)->slot A2.tm 4=.one (.i .i64 (L:Int))/\iA A2 z.S (A2.nt=187/\A2.dfr=[])->K .normal A2 H2):R1 E2 none c A H K:=by
 cases hc
 obtain⟨t3,t4,t13,z0,A0⟩:=hs;replace hK:=hd hK;refine R1.mD λK1 k1 k2 k3 k4=>?_;refine R1.loop (λm A H2=>∃(cc:Nat)(f fo:AC)(q r:Option Nat),m=B-cc/\cc<=B/\Hd (Fr (XU z) H H2)/\US z cc H2 f fo ww (aY z.v []) [] (iq z cc) q r/\Hd (∀c'<cc,iq z c'=[])/\jz A B L (iA A z.S (A.nt=187/\A.dfr=[]))) ?_ B
  ⟨0,f,fo,q,r,rfl,Nat.zero_le _,Fr.refl _,hs0,(λc' h=>absurd h (Nat.not_lt_zero _):∀c'<0,iq z c'=[]),t3,t4,t13,z0,A0⟩
 clear t3 t4 t13 z0 A0 A hs0 k3 f fo q r;rintro m A H2 ⟨cc,f,fo,q,r,rfl,S1,hf,L1,E4,t3,t4,t13,z0,A0⟩;have hN:=L1.dat.n;have U5:z.S<H2.nx:=aa;have y8:=L1.row;have lfo:=L1.fo.lt;have Q8:eD H2 1 (.one fo)=.val (.one (.i .i64 ((iq z cc).length:Int))) H2:=(L1.fo.slr:iR H2 fo (iq z cc)).len;replace L1:=hd L1;by_cases c1:iq z cc=[]
 ·have ce:((((iq z cc).length:Nat):Int)==0)=true:=by rw[c1];rfl
  have hs2':=L1.out;rw[c1]at hs2';generalize(iq z cc).length=nn at Q8 ce
  by_cases c2:(cc:Int)<(B:Int)
  ·have hwc:=bB cc;have s7:=hs2'.setB (B':=cc+1);have Z8:∀c'<cc+1,iq z c'=[]:=λc' o_=>by
    rcases cL c' cc with h|h
    ·exact E4.out c' h
    have:c'=cc:=aa;rw[this];exact c1
   replace c1:=hd c1;replace hs2':=hd hs2';replace s7:=hd s7;replace Z8:=hd Z8;refine zW tyQ ?_;refine R1.dL λK2 q1 q2 q3 q4=>?_;refine zG tyQ λK5 V0=>?_;apply V0.out;apply q1.out;refine R1.gen (λA5 H5=>Fr (XU z) H2 H5/\US z (cc+1) H5 f fo ww (aY z.v []) [] [] q r/\jz A5 B L (iA A5 z.S (A5.nt=187/\A5.dfr=[]))) ⟨(Fr.refl _).mod _ (.inr (.inl rfl)),s7.out,zL⟩ ?_;clear t3 t4 t13 z0 A0 A V0 K5 y8 lfo Q8 ce s7 hs2';rintro A H5 ⟨f5,k8,t3,t4,t13,z0,A0⟩;replace f5:=hd f5;replace k8:=hd k8;refine zG (qA tyQ sL) λK5 V0=>?_;refine WE.con (BH hz (show cc+1<=3 by omega) H5 f fo ww q r k8.out) λw' H6 f6⟨hw,f',fo',q',r',hs6⟩=>?_;subst hw;replace f6:=hd f6;replace hs6:=hd hs6;refine zK tyQ ?_;exact⟨B-(cc+1),aa,cc+1,f',fo',q',r',rfl,aa,(hf.out.then f5.out λk hk=>.inr hk).then f6.out λk hk=>.inr hk,hs6.out,Z8.out,zL⟩
  replace hs2':=hd hs2';refine zW tyQ ?_;apply k2.out;exact hK.out _ _ f fo q r cc hf.out L1.out S1 E4.out (.inr aa) zL
 have ce:((((iq z cc).length:Nat):Int)==0)=false:=aF λh=>c1 (List.eq_nil_of_length_eq_zero aa);generalize hnn:(iq z cc).length=nn at Q8 ce;replace hnn:=hd hnn;replace c1:=hd c1;refine zW tyQ ?_;apply k2.out;exact hK.out _ _ f fo q r cc hf.out L1.out S1 E4.out (.inl c1.out) zL
def aat(R:List (List Fx))(a:Int)(cur:Option (List Fx)):Prop:=(a=-1/\cur=none)\/∃(n:Nat)(h:List Fx),a=(n:Int)/\R[n]?=some h/\cur=some h
structure sI(S:Nat)(R:List (List Fx))(id g off:Nat)(cells pre:List AC)(H:Hp):Prop where
 s:S<H.nx
 r:H.get S=some (.arr (pre++[.o (.sl id g off R.length 1)]) 165 0 0)
 i:id<H.nx
 c:rowOf (H.get id) g=some cells
 a:∀(i:Nat)(x:List Fx),R[i]?=some x->∃u,SlF H u x/\(cells.drop (off+i*1)).headD (.b false)=u/\off+i*1+1<=cells.length
def sI.gr{S:Nat}{R:List (List Fx)}{id g off:Nat}{cells pre:List AC}{H H':Hp}(h:sI S R id g off cells pre H)(hg:Gr H H'):sI S R id g off cells pre H':=
 ⟨ax h.s hg.nx,(hg.get _ h.s aE).trans h.r,ax h.i hg.nx,by rw[hg.get _ h.i aE];exact h.c,λi x hx=>by obtain⟨u,a1,a2⟩:=h.a i x hx;exact⟨u,a1.gr hg,a2⟩⟩
def acJ{c:Code}(hc:atF Tryz.f43 [1,1,1,1,1,1,1,1,0,0,0,1,0,1,0,1]=some c){S:Nat}{R:List (List Fx)}{id g off:Nat}{cells:List AC}{k a b vv ww f la bb:AC}{H:Hp}{A:ag}{K:au->ag->Hp->Prop}{L:Nat}{o:AC}{out:List (List Fx)}
  (hF:sI S R id g off cells [k,a,b,vv,ww,f,la,bb] H) (hlen:∀x∈R,x.length<=1000000) (hol:∀x∈out,x.length<=1000000) (hRl:R.length<=1000000000000) (hoR:out.length<=R.length) (ho:iR H o out)
  (hs:slot A.tm 4=.one (.i .i64 (L:Int))/\iA A S (oA A 16 17 18 (o) (.i .i64 ((-1):Int)) (.i .i64 (0:Int)) 187 []))
  (hK:∀(A2:ag)(H2:Hp)(a:Int),Gr H H2->aat R a (qo out.getLast? R none)->slot A2.tm 4=.one (.i .i64 (L:Int))/\iA A2 S (nu A2 16 17 (o) (.i .i64 (a:Int)) 187 [])->K .normal A2 H2):R1 E2 none c A H K:=by
 cases hc
 obtain⟨t4,t13,t16,t17,t18,z0,A0⟩:=hs;replace hK:=hd hK;replace hlen:=hd hlen;replace hol:=hd hol;refine R1.mD λK1 k1 k2 k3 k4=>?_;refine R1.loop (λm A H3=>∃(i:Nat)(x:Int)(cur:Option (List Fx)),m=R.length-i/\i<=R.length/\Gr H H3/\aat R x cur/\qo out.getLast? (R.drop i) cur=qo out.getLast? R none/\slot A.tm 4=.one (.i .i64 (L:Int))/\iA A S (oA A 16 17 18 (o) (.i .i64 (x:Int)) (.i .i64 (i:Int)) 187 [])) ?_ R.length
  ⟨0,-1,none,rfl,Nat.zero_le _,Fr.refl _,.inl ⟨rfl,rfl⟩,rfl,t4,t13,t16,t17,t18,z0,A0⟩
 clear t4 t13 t16 t17 t18 z0 A0 A k3;rintro m A H3 ⟨i,x,cur,rfl,U3,g3,J0,S0,t4,t13,t16,t17,t18,z0,A0⟩;have J6:=hF.gr g3;have f1:=J6.s;have f2:=J6.r;have f3:=J6.i;have f4:=J6.c;have X_:=ho.gr g3;have lo:=X_.lt;have ll:=X_.len;replace S0:=hd S0;refine zW tyQ ?_;refine zI tyQ (λhc=>?_) (λhc=>?_)
 ·have B0:i<R.length:=aa;have X1:=bB i;have eg:=aA B0;have dg:=List.drop_eq_getElem_cons B0;have mg:=bW B0;generalize R[i]=y at eg dg mg;have S0:=S0.out;rw[dg,qo]at S0;obtain⟨u,hu,u1,u2⟩:=J6.a i y eg;have B8:=hlen.out y mg;obtain⟨cb,S5⟩:∃cb,(out.getLast?.all (λz=>cm z y)&&cur.all λh=>cm y h)=cb:=⟨_,rfl⟩;rw[S5]at S0;replace S0:=hd S0;replace eg:=hd eg;clear dg mg;refine zW tyQ ?_;refine R1.dL λK2 q1 q2 q3 q4=>?_;refine R1.s_q 1000 ae λK5 V0=>?_;suffices R5:∀(A4:ag)(H4:Hp),Gr H3 H4->slot A4.tm 4=.one (.i .i64 (L:Int))/\iA A4 S (xe A4 16 17 18 174 (o) (.i .i64 (x:Int)) (.i .i64 (i:Int)) (.b cb) 187 [])->K5 A4 H4 by
   clear V0 k1 k2 k4 q1 q2 q3 q4 S0;replace R5:=hd R5;rcases List.eq_nil_or_concat out with hon|⟨l,z,hon⟩
   ·have c0:((((out.length:Nat):Int))==0)=true:=by rw[hon];rfl
    have S5:cur.all (λh=>cm y h)=cb:=by rw[<-S5,hon];rfl
    generalize out.length=nn at ll c0 hoR;rcases J0 with⟨rfl,rfl⟩|⟨n,h,rfl,hn,rfl⟩
    ·have S5:true=cb:=S5;subst S5;refine zQ tyQ ?_;exact R5.out _ _ (Fr.refl _) zL
    have P8:=(List.getElem?_eq_some_iff.1 hn).1;obtain⟨u',i_,v1,v2⟩:=J6.a n h hn;have cn:((n:Int)<0)=False:=bh aa;have S5:cm y h=cb:=S5;clear hn;refine zQ (zDe tyQ (ixC B0) (ixC P8) xi) ?_;refine WE.po (ue H3 u u' y h hu i_ aa) λw' H4 g4 hq=>?_;rw[S5]at hq;subst hq;replace S5:=hd S5;refine zQ tyQ ?_;exact R5.out _ _ g4 zL
   rw[List.concat_eq_append]at hon;have hol2:out.length=l.length+1:=by rw[hon,aI,List.length_singleton]
   have ez:out[l.length]?=some z:=by rw[hon,lE (ai _),ga];rfl
   have hzm:z∈out:=gN ez;have Q1:=hol.out z hzm;have S5:(cm z y&&cur.all λh=>cm y h)=cb:=by rw[<-S5,hon,List.getLast?_append];rfl
   obtain⟨ido,go,offo,cellso,hoe,hido,hgro,hato⟩:=X_.open aa;obtain⟨uz,hz,z1,z2⟩:=hato l.length z ez;rw[hol2]at hoe;have c0:((((l.length+1:Nat):Int))==0)=false:=aF aa;have hwl:IntKind.i64.wrap (((l.length+1:Nat):Int)-1)=((l.length:Nat):Int):=by rw[gE aa aa];omega
   have hll:l.length<l.length+1:=ba _;subst hoe;clear hon hzm ez hato ll hol2 ho X_ lo;refine zQ (zDe tyQ (ixC B0) (ixC hll) xi) ?_;refine WE.po (ue H3 uz u z y hz hu aa) λw' H4 g4 hq=>?_;subst hq;have G8:=J6.gr g4;have f5:=G8.s;have f6:=G8.r;have f7:=G8.i;have f8:=G8.c;cases hzy:cm z y with
   |false=>rw[hzy]at S5;have S5:false=cb:=S5;subst S5;replace hzy:=hd hzy;refine zQ tyQ ?_;exact R5.out _ _ g4 zL
   |true=>
    rw[hzy,Bool.true_and]at S5;replace hzy:=hd hzy;rcases J0 with⟨rfl,rfl⟩|⟨n,h,rfl,hn,rfl⟩
    ·have S5:true=cb:=S5;subst S5;refine zQ tyQ ?_;exact R5.out _ _ g4 zL
    have P8:=(List.getElem?_eq_some_iff.1 hn).1;obtain⟨u',i_,v1,v2⟩:=G8.a n h hn;have cn:((n:Int)<0)=False:=bh aa;have S5:cm y h=cb:=S5;clear hn;refine zQ (zDe tyQ (ixC B0) (ixC P8) xi) ?_;refine WE.po (ue H4 u u' y h (hu.gr g4) i_ aa) λw' H5 g5 hq=>?_;rw[S5]at hq;subst hq;replace S5:=hd S5;refine zQ tyQ ?_;exact R5.out _ _ (g4.gr g5) zL
  clear t4 t13 t16 t17 t18 z0 A0;rintro A4 H4 g4 ⟨t4,t13,t16,t17,t18,t174,z0,A0⟩;apply V0.out;clear V0 K5 f1 f2 f3 f4 lo ll hu u1 u2 S5;cases cb with
  |true=>have S0:=S0.out;rw[ad rfl]at S0;replace S0:=hd S0;refine zW tyQ ?_;apply q1.out;refine zW tyQ ?_;exact⟨R.length-(i+1),aa,i+1,(i:Int),some y,rfl,B0,g3.gr g4,.inr ⟨i,y,rfl,eg.out,rfl⟩,S0.out,zL⟩
  |false=>have S0:=S0.out;rw[ab aU]at S0;replace S0:=hd S0;refine zW tyQ ?_;apply q1.out;refine zW tyQ ?_;exact⟨R.length-(i+1),aa,i+1,x,cur,rfl,B0,g3.gr g4,J0,S0.out,zL⟩
 have U0:i=R.length:=aa;have S0:=S0.out;rw[U0,ct,qo]at S0;have L8:aat R x (qo out.getLast? R none):=by rw[<-S0];exact J0
 clear S0 J0;replace L8:=hd L8;refine zW tyQ ?_;apply k2.out;exact hK.out _ _ x g3 L8.out zL
def acK{c:Code}(hc:atF Tryz.f43 [1,1,1,1,1,1,1,1,0]=some c){S:Nat}{R:List (List Fx)}{id g off:Nat}{cells:List AC}{k a b vv ww f la bb:AC}{H:Hp}{A:ag}{K:au->ag->Hp->Prop}{L cc:Nat}{v:List Int}{lr:List Rl}{KK:Int->Int->Int}
  (hF:sI S R id g off cells [k,a,b,vv,ww,f,la,bb] H) (E0:gI v lr KK) (hR:R.Nodup) (D_:∀f∈R,Sol v lr KK cc f) (hlen:∀x∈R,x.length<=1000000) (hRl:R.length<=1000000000000) (hR0:R≠[]) (hL:L<=100)
  (hs:slot A.tm 4=.one (.i .i64 (L:Int))/\iA A S (eO A 16 (.o .nilS) 187 []))
  (hK:∀(A2:ag)(H2:Hp)(o:AC)(out:List (List Fx)),Gr H H2->iR H2 o out->yc R out->(R.length<=out.length\/L<out.length)->out≠[]->eO A2 16 (o) 187 []->K .normal A2 H2):R1 E2 none c A H K:=by
 cases hc
 obtain⟨t4,t13,t16,z0,A0⟩:=hs;replace hK:=hd hK;have hRpos:0<R.length:=List.length_pos_iff.2 hR0;replace hlen:=hd hlen;replace D_:=hd D_;refine R1.mD λK1 k1 k2 k3 k4=>?_;refine R1.loop (λm A H2=>∃(o:AC)(out:List (List Fx))(ro:Option Nat),m=R.length-out.length/\out.length<=R.length/\Gr H H2/\gh FnR 1 30 (λ_=>False) H2 o out ro/\(∀q,ro=some q->H.nx<=q)/\yc R out/\slot A.tm 4=.one (.i .i64 (L:Int))/\iA A S (eO A 16 (o) 187 [])) ?_ R.length
  ⟨.o .nilS,[],none,rfl,Nat.zero_le _,Fr.refl _,gh.nil,(λ_ h=>by cases h),yc.nil,t4,t13,t16,z0,A0⟩
 clear t4 t13 t16 z0 A0 A k3;rintro m A H2 ⟨o,out,ro,rfl,hol,g2,ho,O8,V3,t4,t13,t16,z0,A0⟩;have hF2:=hF.gr g2;have f1:=hF2.s;have f2:=hF2.r;have f3:=hF2.i;have Z4:iR H2 o out:=ho.slr;have lo:=Z4.lt;have ll:=Z4.len;replace ho:=hd ho;replace O8:=hd O8;replace V3:=hd V3;by_cases c1:(out.length:Int)<(R.length:Int)
 ·by_cases c2:(out.length:Int)<=(L:Int)
  ·have c1':out.length<R.length:=aa;obtain⟨y,hy,hyR,hsel2⟩:=WH E0 hR D_.out V3.out c1';have holn:∀x∈out,x.length<=1000000:=λx hx=>hlen.out x (V3.out.me x hx);replace hyR:=hd hyR;replace hsel2:=hd hsel2;replace Z4:=hd Z4;replace holn:=hd holn;refine zW tyQ ?_;refine R1.mD λK2 q1 q2 q3 q4=>?_;refine zW tyQ ?_;refine R1.seq (acJ rfl hF2 hlen.out holn.out hRl hol Z4.out zL λA3 H3 x g3 J0 s7=>?_);show R1 E2 none _ A3 H3 _;clear t4 t13 t16 z0 A0 A f1 f2 f3 lo ll;obtain⟨t4,t13,t16,t17,z0,A0⟩:=s7;rw[hy]at J0;rcases J0 with⟨_,h⟩|⟨n,h,rfl,hn,e⟩
   ·cases h
   cases e
   have P8:=(List.getElem?_eq_some_iff.1 hn).1;obtain⟨u,hu,v1,v2⟩:=hF.a n y hn;have J6:=hF2.gr g3;have f1:=J6.s;have f2:=J6.r;have f3:=J6.i;have f4:=J6.c;have g23:=g2.gr g3;have X_:=ho.out.gr pt nY g3;obtain⟨zz,hz,Q1⟩:=CJ;obtain⟨R6,o9,H9,r9,B1,Q7,j5,P7⟩:=X_.push (P:=prog) (t:=67) pt nY sP vq hz Q1 aU (λj h=>h.elim) (c0:=[u]) (x:=y) rfl ⟨u,rfl,hu.gr g23⟩ (λid hid=>by rw[re]at hid;have h1:=hu.lt id hid;refine⟨λh=>h,λe=>?_⟩;have:=O8.out id e.symm;omega) aa
   clear hz Q1 zz;have g9:Gr H H9:=g23.then j5 λq hq=>.inl (O8.out q hq);have hrn9:∀q,some r9=some q->H.nx<=q:=λq hq=>by
    cases hq
    exact P7.elim (O8.out r9) λh=>aS g23.nx h
   clear hn X_ J6 hu;replace Q7:=hd Q7;replace j5:=hd j5;replace P7:=hd P7;replace hrn9:=hd hrn9;replace hy:=hd hy;refine zG (zDd tyQ jU (ixC P8)) λK5 V0=>?_;try refine⟨R6,?_⟩
   refine zK tyQ ?_;try apply q1.out
   exact⟨R.length-(out.length+1),aa,o9,out++[y],some r9,by rw[aI,List.length_singleton],by rw[aI,List.length_singleton];omega,g9,Q7.out,hrn9.out,hsel2.out,zL⟩
  have O6:out≠[]:=λh=>by rw[h,List.length_nil]at c2;omega
  replace O6:=hd O6;replace Z4:=hd Z4;refine zW tyQ ?_;apply k2.out;exact hK.out _ _ o out g2 Z4.out V3.out (.inr aa) O6.out zL
 have O6:out≠[]:=λh=>by rw[h,List.length_nil]at c1;omega
 replace O6:=hd O6;replace Z4:=hd Z4;refine zW tyQ ?_;apply k2.out;exact hK.out _ _ o out g2 Z4.out V3.out (.inl aa) O6.out zL
def yf:ao prog 43=true:=ae
def QC:ao prog 12=true:=ae
def jC(o:Option (List Lad))(p:Pz)(v:List Int)(B L:Int)(out:List (List Fx))(e:Int):Prop:=
 (gJ o p v≠0/\e=gJ o p v/\out=[])\/(gJ o p v=0/\(B<0\/3<B\/L<1\/100<L)/\e=8/\out=[])\/(gJ o p v=0/\(0<=B/\B<=3)/\(1<=L/\L<=100)/\∃ls,o=some ls /\
  ((e=4/\out=[]/\∀cc:Nat,(cc:Int)<=B->∀g,¬Sol v p.2 (kF (ldC ls p.1) v) cc g) \/
   (e=0/\∃cc:Nat,(cc:Int)<=B/\(∀c'<cc,∀g,¬Sol v p.2 (kF (ldC ls p.1) v) c' g)/\∃R:List (List Fx),R.Nodup/\(∀f,f∈R↔Sol v p.2 (kF (ldC ls p.1) v) cc f)/\yc R out/\(R.length<=out.length\/L<out.length)/\out≠[])))
def Sol.len{v:List Int}{lr:List Rl}{K:Int->Int->Int}{c:Nat}{f:List Fx}(h:Sol v lr K c f):f.length<=c:=by obtain⟨I,T,_,_,h3,h4,_⟩:=h;have:=h4.length_eq;rw[aI]at this;have:=ma T;omega
def PL(z:Ug)(B:Nat):iq z B=Sa z.v z.lr (KFz z) (Lz z) B:=by unfold iq ns itZ Sa;rw[List.drop_zero]
def Wr{z:Ug}(h:UOk z){B:Nat}{f:List Fx}:f∈iq z B↔Sol z.v z.lr (KFz z) B f:=by rw[PL];exact Wq h.ok.rp (Vy h.ok h.ln h.lc)
def Na{z:Ug}(h:UOk z){B:Nat}:(iq z B).Nodup:=by rw[PL];exact MZ h.ok.rp (Vy h.ok h.ln h.lc)
def wJ(H:Hp)(k a b w:AC)(o:Option (List Lad))(p:Pz)(v:List Int)(B L:Int)(hk:mr H k o)(hL:∀ls,o=some ls->(∀x∈ls,x.2.length<=1000000)/\ls.length<=1000000)(L0:∀ls,o=some ls->∀x∈ls,aP x.1 x.2=0)(ha:dD H a p.1)(hb:ei H b p.2)(hB:PzB p)(hw:SlI H w v)(hV:v.length<=4611686018427387904):
  Con E2 43 [.one k,.agg [a,b],.one w,.one (.i .i64 B),.one (.i .i64 L)] H (λ_=>False) λr H'=>∃c e out,r=.tup [(false,[c]),(false,[.i .i64 e])]/\iR H' c out/\jC o p v B L out e:=by
 refine Con.of rfl λlg=>?_;have hk:mr ⟨H.t,H.nx,lg⟩ k o:=mr.same (H:=H) rfl rfl hk;have ha:dD ⟨H.t,H.nx,lg⟩ a p.1:=ha;have hb:ei ⟨H.t,H.nx,lg⟩ b p.2:=hb;have hw:SlI ⟨H.t,H.nx,lg⟩ w v:=hw;generalize(⟨H.t,H.nx,lg⟩:Hp)=H at hk ha hb hw |-
 refine C1.QK 187 [.tmp 10,.tmp 11] Tryz.func43 λtm h0 h1 h2 h3 h4=>?_;have fin:Hd (∀(c:AC)(e:Int)(f:List (List Fx))(A:ag)(H3:Hp),slot A.tm 10=.one c->slot A.tm 11=.one (.i .i64 e)->A.dfr=[]->Gr H H3->iR H3 c f->jC o p v B L f e ->
   ∃w H4,aK E2 [.tmp 10,.tmp 11] (.ret,A,H3)=.ok [(w,H4)]/\Gr H H4/\∀lg:List Nat,∃c e f,w=.tup [(false,[c]),(false,[.i .i64 e])]/\iR ⟨H4.t,H4.nx,lg⟩ c f/\jC o p v B L f e):=λc e f A H3 h8 h9 hdd hg hs hr=>
  ⟨_,H3,bP c (.i .i64 e) (.inr rfl) hdd h8 h9,hg,λlg=>⟨c,e,f,rfl,hs,hr⟩⟩
 have hk00:=hk;have ha00:=ha;have hb00:=hb;have hw00:=hw;replace hk00:=hd hk00;replace ha00:=hd ha00;replace hb00:=hd hb00;replace hw00:=hd hw00;refine zG tyQ λK hK=>?_;apply hK.out;refine R1.gen (λA1 H1=>Gr H H1/\H.nx<H1.nx/\H1.get H.nx=some (.arr [a,b] 26 0 0)/\eQ A1.tm 0 2 (k) (w) (jz A1 B L (fM A1 H.nx (A1.nt=187/\A1.dfr=[])))) ⟨(Fr.refl _).new _,ba _,aC rfl,zL⟩ ?_;rintro A1 H1 ⟨g1,m1,rx,t0,t2,t3,t4,t6,z0,A0⟩;clear h0 h1 h2 h3 h4 tm hK K;obtain⟨P,hPe⟩:=dI H.nx;rw[<-hPe]at m1 rx t6;have hPH:H.nx<=P:=aa;replace hPe:=hd hPe;have hk:=hk.gr g1;have ha:=ha.gr g1;have hb:=hb.gr g1;have hw:=hw.gr g1;refine zG (qA tyQ To) λK hK=>?_;refine WE.con (Qy H1 k a b w o p v hk hL ha hb hB hw hV) λw' H2 g2 hq=>?_;subst hq;obtain⟨rx,m1⟩:=bD g2 m1 rx;have hk:=hk.gr g2;have ha:=ha.gr g2;have hb:=hb.gr g2;have hw:=hw.gr g2;have g2:=g1.gr g2;clear g1;have F1:∀H:Hp,iR H (.o .nilS) []:=λH=>(gh.nil (R:=FnR) (sz:=1) (e:=0) (X:=λ_=>False) (H:=H)).slr;replace F1:=hd F1;by_cases Y0:gJ o p v=0
 case neg=>have ce:(gJ o p v==0)=false:=aF Y0;have hR:jC o p v B L [] (gJ o p v):=.inl ⟨Y0,rfl,rfl⟩;replace hR:=hd hR;replace Y0:=hd Y0;refine zK tyQ ?_;exact fin.out (.o .nilS) _ [] _ _ qp qp qe g2 (F1.out _) hR.out
 have ce:(gJ o p v==0)=true:=by rw[Y0];rfl
 obtain⟨hC,hRl,Z1,hcp,hrg⟩:=zh Y0;obtain⟨ls,rfl,_,_,R5,_⟩:=qR hcp;have E0:=zR Y0 (L0 ls rfl);obtain⟨l8,q_⟩:=hL ls rfl;have L3:=Y0;clear hRl Z1 hcp hrg R5 hB hV hL L0 hC;replace L3:=hd L3;replace E0:=hd E0;replace l8:=hd l8;by_cases hB0:B<0
 ·have hR:jC (some ls) p v B L [] 8:=.inr (.inl ⟨L3.out,.inl hB0,rfl,rfl⟩);replace hR:=hd hR;refine zK tyQ ?_;exact fin.out (.o .nilS) _ [] _ _ qp qp qe g2 (F1.out _) hR.out
 by_cases hB3:3<B
 ·have hR:jC (some ls) p v B L [] 8:=.inr (.inl ⟨L3.out,.inr (.inl hB3),rfl,rfl⟩);replace hR:=hd hR;refine zK tyQ ?_;exact fin.out (.o .nilS) _ [] _ _ qp qp qe g2 (F1.out _) hR.out
 by_cases hL0:L<1
 ·have hR:jC (some ls) p v B L [] 8:=.inr (.inl ⟨L3.out,.inr (.inr (.inl hL0)),rfl,rfl⟩);replace hR:=hd hR;refine zK tyQ ?_;exact fin.out (.o .nilS) _ [] _ _ qp qp qe g2 (F1.out _) hR.out
 by_cases hL3:100<L
 ·have hR:jC (some ls) p v B L [] 8:=.inr (.inl ⟨L3.out,.inr (.inr (.inr hL3)),rfl,rfl⟩);replace hR:=hd hR;refine zK tyQ ?_;exact fin.out (.o .nilS) _ [] _ _ qp qp qe g2 (F1.out _) hR.out
 obtain⟨n,rfl⟩:=jL (Int.not_lt.1 hB0);obtain⟨l,rfl⟩:=jL (show 0<=L by omega);have hn3:n<=3:=aa;have hl3:l<=100:=aa;have hv64:=E0.out.v64;replace Y0:=hd Y0;replace hk:=hd hk;replace ha:=hd ha;replace hb:=hd hb;refine zK tyQ ?_;refine zO (qA tyQ QC) λK hK=>?_;refine WE.po (QS H2 w v hw aa) λw' H3 g3⟨ww,wq,N4,hrw,hwq⟩=>?_;subst N4;obtain⟨rx3,m3⟩:=bD g3 m1 rx;have g03:=g2.gr g3;have hwq3:∀i,wq=some i->i<H3.nx:=λi hi=>by subst hi;exact dA.rlt hrw
 replace hrw:=hd hrw;replace hwq:=hd hwq;replace hwq3:=hd hwq3;refine zQ (zDh tyQ XF Wf MM MN MO MP) ?_;apply hK.out;refine R1.gen (λA4 H4=>Gr H3 H4/\H3.nx<H4.nx/\H4.get H3.nx=some (.arr [k,a,b,w,ww,.o .nilS,.o .nilS,.i .i64 0,.o .nilS] 165 0 0)/\eQ A4.tm 0 2 (k) (w) (jz A4 n l (fM A4 P (iA A4 H3.nx (A4.nt=187/\A4.dfr=[]))))) ⟨(Fr.refl _).new _,ba _,aC rfl,zL⟩ ?_;clear t0 t2 t3 t4 t6 z0 A0 A1 hK K rx m1;rintro A H4 ⟨g4,n4,G0,t0,t2,t3,t4,t6,t13,z0,A0⟩;obtain⟨S,hSe⟩:=dI H3.nx;rw[<-hSe]at n4 G0 t13;obtain⟨rx4,m4⟩:=bD g4 m3 rx3;have hPS:P<S:=aa;have g04:=g03.gr g4;obtain⟨W,j7,W8,hW3,X2⟩:∃W,(∀i,wq=some i->i=W)/\W<H4.nx/\S≠W/\H.nx<=W:=by
  have h2:=g2.nx;cases hq:wq with
  |none=>exact⟨P,λ_ h=>(by cases h),aa,aa,hPH⟩
  |some q=>have a1:=hwq3.out q hq;have a2:=hwq.out q hq;exact⟨q,λi h=>(by cases h;rfl),aa,aa,aa⟩
 have b_:∀(N:Nat)(H':Hp),H4.nx<=H'.nx->(∀i,i<H4.nx->i≠S->i≠W->H'.get i=H4.get i)->(RBk H' k ls/\dD H' a p.1)/\ei H' b p.2/\SlI H' w v:=λN H' h1 h2=>by
  have hle:=g04.nx;have B_:H.nx<=S:=by rw[hSe];exact g03.nx
  have gf:Gr H ⟨H'.t,H'.nx,H.log⟩:=⟨aS hle h1,λi hi _=>(h2 i aa aa aa).trans (g04.get i hi aE),[],rfl,λ_ h=>by cases h⟩;exact⟨⟨((show RBk H k ls from hk00.out).gr gf:RBk ⟨H'.t,H'.nx,H.log⟩ k ls),(ha00.out.gr gf:dD ⟨H'.t,H'.nx,H.log⟩ a p.1)⟩,(hb00.out.gr gf:ei ⟨H'.t,H'.nx,H.log⟩ b p.2),(hw00.out.gr gf:SlI ⟨H'.t,H'.nx,H.log⟩ w v)⟩
 obtain⟨⟨D8,ha4⟩,hb4,hw4⟩:=b_ 0 H4 (ai _) λ_ _ _ _=>rfl;have hrw4:As H4 ww v wq:=dA.fr hrw.out g4 λ_ _=>aE;have B_:H.nx<=S:=by rw[hSe];exact g03.nx
 replace hSe:=hd hSe;replace b_:=hd b_;replace D8:=hd D8;replace ha4:=hd ha4;replace hb4:=hd hb4;replace hw4:=hd hw4;replace hrw4:=hd hrw4;replace j7:=hd j7;replace hw:=hd hw;clear rx3 m3;refine zW tyQ ?_;refine R1.seq (aby rfl E0.out l8.out q_ hn3 hl3 D8.out ha4.out hb4.out hw4.out ⟨⟨hPS,n4⟩,W8,hW3⟩ (b_.out 0) rx4 G0 zL λA5 H5 la LL r f5 q8 l_ hlen5 hul5 k8=>?_);show R1 E2 none _ A5 H5 _;clear t0 t2 t3 t4 t6 t13 z0 A0 A G0 rx4;obtain⟨t0,t2,t3,t4,t6,t13,z0,A0⟩:=k8;have hn5:=f5.nx;obtain⟨z,hz⟩:∃z:Ug,z=⟨S,W,H5.nx,k,a,b,w,la,ls,p.1,p.2,v,LL⟩:=⟨_,rfl⟩;have hUO:UOk z:=by subst hz;exact⟨E0.out,l8.out,q_,hlen5,hul5.c⟩
 have hUD:UD z H5:=by subst hz;refine⟨⟨⟨by show S<H5.nx;omega,by show W<H5.nx;omega,hW3⟩,ai _⟩,λH' n g=>?_⟩;have n:H5.nx<=H'.nx:=n;have g:∀i,i<H5.nx->i≠S->i≠W->H'.get i=H5.get i:=g;obtain⟨⟨b1,b2⟩,b3,b4⟩:=b_.out 0 H' aa λi hi h1 h2=>(g i aa h1 h2).trans (f5.get i hi h1);have ff:Fr (λi=>i=S\/i=W) H5 ⟨H'.t,H'.nx,H5.log⟩:=⟨n,λi hi hx=>g i hi (λe=>hx (.inl e)) λe=>hx (.inr e),[],rfl,λ_ h=>by cases h⟩;exact⟨b1,b2,b3,b4,((l_.fr Gw GQ ff λj hj=>.inl hj).slr:LG ⟨H'.t,H'.nx,H5.log⟩ la LL)⟩
 have hUS:US z 0 H5 (.o .nilS) (.o .nilS) ww (aY z.v []) [] [] none none:=by subst hz;exact⟨hUD,q8,⟨wq,dA.fr hrw4.out f5 λi hi(e:i=S)=>hW3 (by rw[<-e];exact(j7.out i hi)),j7.out⟩,.inl ⟨rfl,rfl,rfl⟩,λ_ h=>(by cases h),gh.nil⟩
 have hzS:z.S=S:=by rw[hz]
 have hXU:∀i,XU z i->H.nx<=i:=λi hi=>by
  have h4:=g04.nx;subst hz;rcases hi with h|h|h
  ·have h:i=S:=h;omega
  ·have h:i=W:=h;omega
  have h:H5.nx<=i:=h;omega
 have g05:Gr H H5:=g04.then f5 λi(hi:i=S)=>.inl aa;have hzv:z.v=v:=by rw[hz]
 have hzlr:z.lr=p.2:=by rw[hz]
 have hzK:KFz z=kF (ldC ls p.1) v:=by rw[hz];rfl
 rw[<-hzS]at t13;clear q8 l_ hlen5 hul5 hUD;replace hz:=hd hz;replace hUS:=hd hUS;replace hUO:=hd hUO;replace hXU:=hd hXU;replace hzS:=hd hzS;replace hzv:=hd hzv;replace hzlr:=hd hzlr;replace hzK:=hd hzK;replace f5:=hd f5;refine zW tyQ ?_;refine zG (qA tyQ sL) λK hK=>?_;refine WE.con (BH hUO.out (show 0<=3 by decide) H5 _ _ ww _ _ hUS.out) λw' H6 f6⟨N4,f',fo',q',r',hs6⟩=>?_;subst N4;replace hs6:=hd hs6;replace f6:=hd f6;refine zK tyQ ?_;refine R1.seq (ZK rfl hUO.out hn3 hs6.out zL λA7 H7 f fo q7 r7 cc f7 V_ S2 E4 M5 u_=>?_);show R1 E2 none _ A7 H7 _;clear t0 t2 t3 t4 t6 t13 z0 A0 A5 hK K;obtain⟨t4,t13,z0,A0⟩:=u_;have g07:Gr H H7:=(g05.then f6.out λi hi=>.inl (hXU.out i hi)).then f7 λi hi=>.inl (hXU.out i hi);have hN:=V_.dat.n;have hS7:z.S<H7.nx:=aa;have hrow7:=V_.row;have lfo:=V_.fo.lt;have Q8:eD H7 1 (.one fo)=.val (.one (.i .i64 ((iq z cc).length:Int))) H7:=(V_.fo.slr:iR H7 fo (iq z cc)).len;have R4:∀(B:Nat)(f:List Fx),f∈iq z B↔Sol v p.2 (kF (ldC ls p.1) v) B f:=λB f=>by have:=Wr hUO.out (B:=B) (f:=f);rwa [hzv.out,hzlr.out,hzK.out]at this
 have Q5:=Na hUO.out (B:=cc);have hRl:(iq z cc).length<=1000000000000:=by have h1:=OW (z:=z) (B:=cc) aa (by rw[hUO.out.ln,hzv.out];omega) hUO.out.len;have h2:(iq z cc).length<=(itZ z cc 0 []).length:=Cr;omega
 have hrp:gI v p.2 (kF (ldC ls p.1) v):=E0.out.rp;replace V_:=hd V_;replace R4:=hd R4;replace Q5:=hd Q5;replace f7:=hd f7;replace E4:=hd E4;by_cases c1:iq z cc=[]
 ·have ce:((((iq z cc).length:Nat):Int)==0)=true:=by rw[c1];rfl
  have hcB:cc=n:=M5.resolve_left λh=>h c1;have hR:jC (some ls) p v (n:Int) (l:Int) [] 4:=.inr (.inr ⟨L3.out,⟨aa,aa⟩,⟨aa,aa⟩,ls,rfl,.inl ⟨rfl,rfl,λc' o_ g hg=>by
   have hm:=(R4.out c' g).2 hg;have:iq z c'=[]:=by
    rcases cL c' cc with h|h
    ·exact E4.out c' h
    have:c'=cc:=aa;rw[this];exact c1
   rw[this]at hm;cases hm⟩⟩)
  generalize(iq z cc).length=nn at Q8 ce
  replace hR:=hd hR;replace c1:=hd c1;replace hcB:=hd hcB;replace M5:=hd M5;refine zW tyQ ?_;exact fin.out (.o .nilS) _ [] _ _ qp qp qe g07 (F1.out _) hR.out
 have C5:0<(iq z cc).length:=List.length_pos_iff.2 c1;have ce:((((iq z cc).length:Nat):Int)==0)=false:=aF aa;obtain⟨idf,gf,offf,cellsf,hfe,hidf,hgrf,hatf⟩:=iR.open (H:=H7) (v:=fo) (l:=iq z cc) V_.out.fo.slr C5;subst hfe;have hFA:sI z.S (iq z cc) idf gf offf cellsf [z.k,z.a,z.b,z.vv,ww,f,z.la,.i .i64 (cc:Int)] H7:=⟨hS7,hrow7,hidf,hgrf,hatf⟩;have hlenR:∀x∈iq z cc,x.length<=1000000:=λx hx=>by have:=((R4.out cc x).1 hx).len;omega
 replace hlenR:=hd hlenR;replace hFA:=hd hFA;replace c1:=hd c1;replace M5:=hd M5;clear hatf;refine zW tyQ ?_;refine R1.seq (acK rfl hFA.out hrp Q5.out (λf hf=>(R4.out cc f).1 hf) hlenR.out hRl c1.out hl3 zL λA8 H8 o8 out g8 Z4 V3 N6 Q0 hs8=>?_);show R1 E2 none _ A8 H8 _;clear t4 t13 z0 A0 A7 Q8 lfo hrow7 hidf hgrf;obtain⟨t16,z0,A0⟩:=hs8;have hR:jC (some ls) p v (n:Int) (l:Int) out 0:=.inr (.inr ⟨L3.out,⟨aa,aa⟩,⟨aa,aa⟩,ls,rfl,.inr ⟨rfl,cc,aa,(λc' o_ g hg=>by have hm:=(R4.out c' g).2 hg;rw[E4.out c' o_]at hm;cases hm),iq z cc,Q5.out,R4.out cc,V3,aa,Q0⟩⟩)
 have hso8:=Z4;replace hR:=hd hR;replace hso8:=hd hso8;replace Z4:=hd Z4;replace Q0:=hd Q0;refine zW tyQ ?_;exact fin.out o8 _ out _ _ qp qp qe (g07.gr g8) hso8.out hR.out
def LS:ao prog 16=true:=ae
def Iy:ao prog 19=true:=ae
def ZE{o:Option (List Lad)}{p:Pz}{v:List Int}{B L:Int}{out:List (List Fx)}(h:jC o p v B L out 0):out≠[]:=by
 rcases h with⟨h1,h2,_⟩|⟨_,_,h,_⟩|⟨_,_,_,ls,_,⟨h,_⟩|⟨_,cc,_,_,R,_,_,_,_,h⟩⟩
 ·exact absurd h2.symm h1
 ·exact absurd h aU
 ·exact absurd h aU
 exact h
def Qt(out:List (List Fx))(e:Int)(f:List Fx):Prop:=(e≠0/\f=[])\/(e=0/\∃l,out=f::l)
def KE(H:Hp)(k a b w:AC)(o:Option (List Lad))(p:Pz)(v:List Int)(B:Int)(hk:mr H k o)(hL:∀ls,o=some ls->(∀x∈ls,x.2.length<=1000000)/\ls.length<=1000000)(L0:∀ls,o=some ls->∀x∈ls,aP x.1 x.2=0)(ha:dD H a p.1)(hb:ei H b p.2)(hB:PzB p)(hw:SlI H w v)(hV:v.length<=4611686018427387904):
  Con E2 16 [.one k,.agg [a,b],.one w,.one (.i .i64 B)] H (λ_=>False) λr H'=>∃c e f out,r=.tup [(false,[c]),(false,[.i .i64 e])]/\SlF H' c f/\jC o p v B 1 out e/\Qt out e f:=by
 refine Con.of rfl λlg=>?_;have hk:mr ⟨H.t,H.nx,lg⟩ k o:=mr.same (H:=H) rfl rfl hk;have ha:dD ⟨H.t,H.nx,lg⟩ a p.1:=ha;have hb:ei ⟨H.t,H.nx,lg⟩ b p.2:=hb;have hw:SlI ⟨H.t,H.nx,lg⟩ w v:=hw;generalize(⟨H.t,H.nx,lg⟩:Hp)=H at hk ha hb hw |-
 refine C1.QJ 26 [.tmp 8,.tmp 9] Tryz.func16 λtm h0 h1 h2 h3=>?_;have fin:Hd (∀(c:AC)(e:Int)(f:List Fx)(out:List (List Fx))(A:ag)(H3:Hp),slot A.tm 8=.one c->slot A.tm 9=.one (.i .i64 e)->A.dfr=[]->Gr H H3->SlF H3 c f->jC o p v B 1 out e->Qt out e f ->
   ∃w H4,aK E2 [.tmp 8,.tmp 9] (.ret,A,H3)=.ok [(w,H4)]/\Gr H H4/\∀lg:List Nat,∃c e f out,w=.tup [(false,[c]),(false,[.i .i64 e])]/\SlF ⟨H4.t,H4.nx,lg⟩ c f/\jC o p v B 1 out e/\Qt out e f):=λc e f out A H3 h8 h9 hdd hg hs hr h1=>
  ⟨_,H3,bP c (.i .i64 e) (.inr rfl) hdd h8 h9,hg,λlg=>⟨c,e,f,out,rfl,hs,hr,h1⟩⟩
 refine zG tyQ λK hK=>?_;apply hK.out;refine R1.gen (λA1 H1=>Gr H H1/\H.nx<H1.nx/\H1.get H.nx=some (.arr [a,b] 26 0 0)/\eQ A1.tm 0 2 (k) (w) (iB A1 B (eO A1 5 (.o (.ptr H.nx 0 0 2)) 26 []))) ⟨(Fr.refl _).new _,ba _,aC rfl,zL⟩ ?_;rintro A1 H1 ⟨g1,m1,rx,t0,t2,t3,t5,z0,A0⟩;clear h0 h1 h2 h3 tm hK K;have hk:=hk.gr g1;have ha:=ha.gr g1;have hb:=hb.gr g1;have hw:=hw.gr g1;refine zG (qA tyQ yf) λK hK=>?_;refine WE.con (wJ H1 k a b w o p v B 1 hk hL L0 ha hb hB hw hV) λw' H2 g2⟨c,e,out,hq,Z4,hS⟩=>?_;subst hq;have g2:=g1.gr g2;clear g1 hL L0 hB hV hk ha hb hw;by_cases he:e=0
 ·have ce:=beq_iff_eq.2 he;have Q0:out≠[]:=ZE (by rw[he]at hS;exact hS);cases out with
  |nil=>exact absurd rfl Q0
  |cons f l=>obtain⟨id,g,off,cells,hce,hid,W0,J0⟩:=iR.open Z4 (uN _);subst hce;obtain⟨u,hu,v1,v2⟩:=J0 0 f rfl;rw[Nat.zero_mul,Nat.add_zero]at v1 v2;have hO:Qt (f::l) e f:=.inr ⟨he,l,rfl⟩;subst he;clear J0 Q0 Z4;replace hO:=hd hO;replace hS:=hd hS;replace hu:=hd hu;refine zK tyQ ?_;exact fin.out u _ f (f::l) _ _ qp qp qe g2 hu.out hS.out hO.out
 have ce:(e==0)=false:=aF he;have F1:SlF H2 (.o .nilS) []:=SlF.nil;have hO:Qt out e []:=.inl ⟨he,rfl⟩;replace he:=hd he;replace hO:=hd hO;replace hS:=hd hS;replace F1:=hd F1;refine zK tyQ ?_;exact fin.out (.o .nilS) _ [] out _ _ qp qp qe g2 F1.out hS.out hO.out
def Aq(out:List (List Fx))(L e0 e:Int)(fs:List (List Fx)):Prop:=(e,fs)=if e0≠0 then(e0,[])else if L<out.length then(3,[])else(0,out)
def Hg(H:Hp)(k a b w:AC)(o:Option (List Lad))(p:Pz)(v:List Int)(B L:Int)(hk:mr H k o)(hL:∀ls,o=some ls->(∀x∈ls,x.2.length<=1000000)/\ls.length<=1000000)(L0:∀ls,o=some ls->∀x∈ls,aP x.1 x.2=0)(ha:dD H a p.1)(hb:ei H b p.2)(hB:PzB p)(hw:SlI H w v)(hV:v.length<=4611686018427387904):
  Con E2 19 [.one k,.agg [a,b],.one w,.one (.i .i64 B),.one (.i .i64 L)] H (λ_=>False) λr H'=>∃c e fs out e0,r=.tup [(false,[c]),(false,[.i .i64 e])]/\iR H' c fs/\jC o p v B L out e0/\Aq out L e0 e fs:=by
 refine Con.of rfl λlg=>?_;have hk:mr ⟨H.t,H.nx,lg⟩ k o:=mr.same (H:=H) rfl rfl hk;have ha:dD ⟨H.t,H.nx,lg⟩ a p.1:=ha;have hb:ei ⟨H.t,H.nx,lg⟩ b p.2:=hb;have hw:SlI ⟨H.t,H.nx,lg⟩ w v:=hw;generalize(⟨H.t,H.nx,lg⟩:Hp)=H at hk ha hb hw |-
 refine C1.QK 31 [.tmp 10,.tmp 11] Tryz.func19 λtm h0 h1 h2 h3 h4=>?_;have fin:Hd (∀(c:AC)(e:Int)(fs out:List (List Fx))(e0:Int)(A:ag)(H3:Hp),slot A.tm 10=.one c->slot A.tm 11=.one (.i .i64 e)->A.dfr=[]->Gr H H3->iR H3 c fs->jC o p v B L out e0->Aq out L e0 e fs ->
   ∃w H4,aK E2 [.tmp 10,.tmp 11] (.ret,A,H3)=.ok [(w,H4)]/\Gr H H4/\∀lg:List Nat,∃c e fs out e0,w=.tup [(false,[c]),(false,[.i .i64 e])]/\iR ⟨H4.t,H4.nx,lg⟩ c fs/\jC o p v B L out e0/\Aq out L e0 e fs):=λc e fs out e0 A H3 h8 h9 hdd hg hs hr h1=>
  ⟨_,H3,bP c (.i .i64 e) (.inr rfl) hdd h8 h9,hg,λlg=>⟨c,e,fs,out,e0,rfl,hs,hr,h1⟩⟩
 refine zG tyQ λK hK=>?_;apply hK.out;refine R1.gen (λA1 H1=>Gr H H1/\H.nx<H1.nx/\H1.get H.nx=some (.arr [a,b] 26 0 0)/\eQ A1.tm 0 2 (k) (w) (jz A1 B L (fM A1 H.nx (A1.nt=31/\A1.dfr=[])))) ⟨(Fr.refl _).new _,ba _,aC rfl,zL⟩ ?_;rintro A1 H1 ⟨g1,m1,rx,t0,t2,t3,t4,t6,z0,A0⟩;clear h0 h1 h2 h3 h4 tm hK K;have hk:=hk.gr g1;have ha:=ha.gr g1;have hb:=hb.gr g1;have hw:=hw.gr g1;refine zG (qA tyQ yf) λK hK=>?_;refine WE.con (wJ H1 k a b w o p v B L hk hL L0 ha hb hB hw hV) λw' H2 g2⟨c,e,out,hq,Z4,hS⟩=>?_;subst hq;have g2:=g1.gr g2;clear g1 hL L0 hB hV hk ha hb hw;have F1:iR H2 (.o .nilS) []:=(gh.nil (R:=FnR) (sz:=1) (e:=0) (X:=λ_=>False) (H:=H2)).slr;have lso:=Z4.lt;have llo:=Z4.len;replace hS:=hd hS;replace Z4:=hd Z4;replace F1:=hd F1;by_cases he:e=0
 ·have ce:=beq_iff_eq.2 he;by_cases hl:L<(out.length:Int)
  ·have hO:Aq out L e 3 []:=by unfold Aq;rw[ab (λh=>h he),ad hl]
   replace he:=hd he;replace hO:=hd hO;refine zK tyQ ?_;exact fin.out (.o .nilS) _ [] out e _ _ qp qp qe g2 F1.out hS.out hO.out
  have hO:Aq out L e 0 out:=by unfold Aq;rw[ab (λh=>h he),ab hl]
  replace he:=hd he;replace hO:=hd hO;refine zK tyQ ?_;exact fin.out c _ out out e _ _ qp qp qe g2 Z4.out hS.out hO.out
 have ce:(e==0)=false:=aF he;have hO:Aq out L e e []:=by unfold Aq;rw[ad he]
 replace he:=hd he;replace hO:=hd hO;refine zK tyQ ?_;exact fin.out (.o .nilS) _ [] out e _ _ qp qp qe g2 F1.out hS.out hO.out
def PW{v:List Int}{lr:List Rl}{K:Int->Int->Int}{c c':Nat}{f f':List Fx}(h:Sol v lr K c f)(h':Sol v lr K c' f')(hn:∀d<c,∀g,¬Sol v lr K d g)(x_:∀d<c',∀g,¬Sol v lr K d g):c=c':=by
 rcases Nat.lt_trichotomy c c' with h1|h1|h1
 ·exact absurd h (x_ c h1 f)
 ·exact h1
 exact absurd h' (hn c' h1 f')
def Nc{o:Option (List Lad)}{p:Pz}{v:List Int}{B e e':Int}{f f':List Fx}{out:List (List Fx)}(L0:∀ls,o=some ls->∀x∈ls,aP x.1 x.2=0)(h1:CM o p v B f e)(h2:jC o p v B 1 out e')(h3:Qt out e' f'):e=e'/\f=f':=by
 rcases h1 with⟨a1,a2,a3⟩|⟨a1,a2,a3,a4⟩|⟨a1,a2,ls,rfl,a3⟩
 ·rcases h2 with⟨b1,b2,b3⟩|⟨b1,_⟩|⟨b1,_⟩
  ·rcases h3 with⟨c1,c2⟩|⟨c1,_⟩
   ·exact⟨by rw[a2,b2],by rw[a3,c2]⟩
   exact absurd (b2.symm.trans c1) b1
  ·exact absurd b1 a1
  exact absurd b1 a1
 ·rcases h2 with⟨b1,_⟩|⟨_,b2,b3,b4⟩|⟨_,b2,bz⟩
  ·exact absurd a1 b1
  ·rcases h3 with⟨c1,c2⟩|⟨c1,_⟩
   ·exact⟨by rw[a3,b3],by rw[a4,c2]⟩
   omega
  clear bz h3;omega
 rcases h2 with⟨b1,_⟩|⟨_,b2,_⟩|⟨_,_,_,ls',e1,b4⟩
 ·exact absurd a1 b1
 ·omega
 cases e1
 rcases b4 with⟨b5,_,b6⟩|⟨b5,cc,b6,b7,R,_,b8,b9,_,_⟩
 ·rcases h3 with⟨c1,c2⟩|⟨c1,_⟩
  ·rcases a3 with⟨a4,a5,_⟩|⟨_,cc,a5,a6,_⟩
   ·exact⟨by rw[a4,b5],by rw[a5,c2]⟩
   exact absurd a6 (b6 cc a5 f)
  omega
 rcases h3 with⟨c1,_⟩|⟨_,l,c2⟩
 ·exact absurd b5 c1
 subst c2;have hx:=b9.me f' (aT ..);have B6:=(b8 f').1 hx;rcases a3 with⟨_,_,a6⟩|⟨a4,cc2,a5,a6,a7,a8⟩
 ·exact absurd B6 (a6 cc b6 f')
 have S2:=PW a6 B6 a7 b7;subst S2;refine⟨a4.trans b5.symm,?_⟩;have hb:=a8 f' B6;have hfR:=(b8 f).2 a6;by_cases hfo:f∈f'::l
 ·rcases List.mem_cons.1 hfo with h|h
  ·exact h
  have:=(List.pairwise_cons.1 b9.st).1 f h;rw[this]at hb;cases hb
 have:=b9.af f hfR hfo f' (aT ..);rw[this]at hb;cases hb
def KL{o:Option (List Lad)}{p:Pz}{v:List Int}{B L e e' e0:Int}{fs fs' out:List (List Fx)}(h1:qI o p v B L fs e)(h2:jC o p v B L out e0)(h3:Aq out L e0 e' fs'):e=e'/\fs=fs':=by
 unfold Aq at h3;have nz:e0≠0->e'=e0/\fs'=[]:=λh=>by rw[ad h]at h3;cases h3;exact⟨rfl,rfl⟩
 rcases h1 with⟨a1,a2,a3⟩|⟨a1,a2,a3,a4⟩|⟨a1,a2,aL,ls,rfl,found,a3,a4⟩
 ·rcases h2 with⟨b1,b2,b3⟩|⟨b1,_⟩|⟨b1,_⟩
  ·obtain⟨c1,c2⟩:=nz (by rw[b2];exact b1);exact⟨by rw[a2,c1,b2],by rw[a3,c2]⟩
  ·exact absurd b1 a1
  exact absurd b1 a1
 ·rcases h2 with⟨b1,_⟩|⟨_,b2,b3,b4⟩|⟨_,b2,b3,bz⟩
  ·exact absurd a1 b1
  ·obtain⟨c1,c2⟩:=nz aa;exact⟨by rw[a3,c1,b3],by rw[a4,c2]⟩
  clear bz h3;omega
 rcases h2 with⟨b1,_⟩|⟨_,b2,_⟩|⟨_,_,_,ls',e1,b4⟩
 ·exact absurd a1 b1
 ·omega
 cases e1
 rcases b4 with⟨b5,_,b6⟩|⟨b5,cc,b6,b7,R,bn,b8,b9,b10,b11⟩
 ·obtain⟨c1,c2⟩:=nz aa;rcases a3 with⟨a5,_⟩|⟨c,hc,Q0,hF,_⟩
  ·rw[ad a5]at a4;cases a4
   exact⟨by rw[c1,b5],c2.symm⟩
  cases found with
  |nil=>exact absurd rfl Q0
  |cons f l=>exact absurd (hF.so f (aT ..)) (b6 c aa f)
 rw[ab (λh=>h b5)]at h3;rcases a3 with⟨_,a5⟩|⟨c,hc,Q0,hF,hlen,hG,E4⟩
 ·cases out with
  |nil=>exact absurd rfl b11
  |cons f l=>exact absurd ((b8 f).1 (b9.me f (aT ..))) (a5 cc aa f)
 have S2:c=cc:=by
  cases found with
  |nil=>exact absurd rfl Q0
  |cons f l=>
   cases out with
   |nil=>exact absurd rfl b11
   |cons f' l'=>exact PW (hF.so f (aT ..)) ((b8 f').1 (b9.me f' (aT ..))) E4 b7
 subst S2;have hLn:((L.toNat:Nat):Int)=L:=Int.toNat_of_nonneg aa;have hfc:(∀f,Sol v p.2 (kF (ldC ls p.1) v) c f->f∈found)\/L.toNat<found.length:=by
  by_cases h:L.toNat<found.length
  ·exact .inr h
  refine .inl λf hf=>?_;have:=hG f hf;unfold Got at this;rw[ab aa]at this;exact this.resolve_right h
 rw[ab Q0]at a4;rcases ZF (limit:=L.toNat) bn b8 hF.st hF.so hfc b9.st b9.me (b10.imp id λh=>aa)with⟨d1,d2⟩|⟨d1,d2⟩
 ·rw[d2,ab aa]at h3;rw[ab aa]at a4;cases h3;cases a4
  exact⟨rfl,rfl⟩
 rw[ad aa]at h3 a4;cases h3;cases a4
 exact⟨rfl,rfl⟩
def Sc{o:Option (List Lad)}{p:Pz}{v:List Int}{B L e:Int}{fs:List (List Fx)}(h:qI o p v B L fs e):fs.length<=101/\∀f∈fs,f.length<=3:=by
 rcases h with⟨_,_,rfl⟩|⟨_,_,_,rfl⟩|⟨h1,h2,hL,ls,rfl,found,h3,h4⟩
 ·exact⟨Nat.zero_le _,λ_ h=>absurd h List.not_mem_nil⟩
 ·exact⟨Nat.zero_le _,λ_ h=>absurd h List.not_mem_nil⟩
 have key:found.length<=101/\∀f∈found,f.length<=3:=by
  rcases h3 with⟨rfl,_⟩|⟨c,hc,_,hF,hlen,_⟩
  ·exact⟨Nat.zero_le _,λ_ h=>absurd h List.not_mem_nil⟩
  exact⟨aa,λf hf=>by have:=(hF.so f hf).len;omega⟩
 by_cases c1:found=[]
 ·rw[ad c1]at h4;cases h4
  exact⟨Nat.zero_le _,λ_ h=>absurd h List.not_mem_nil⟩
 rw[ab c1]at h4;by_cases c2:L<found.length
 ·rw[ad c2]at h4;cases h4
  exact⟨Nat.zero_le _,λ_ h=>absurd h List.not_mem_nil⟩
 rw[ab c2]at h4;cases h4
 exact key
def tyD:=qA tyC tyR
def Df(H:Hp)(u a b w:AC)(B L:Int)(ls:List Lad)(p:Pz)(v:List Int)(hl:iN H u ls)(ha:dD H a p.1)(hb:ei H b p.2)(hB:PzB p)(hw:SlI H w v)(hV:v.length*8<=140737488355328):
  C1 E2 5 [.agg [u,a,b,w],.one (.i .i64 B),.one (.i .i64 L)] H λr _=>r=.one (.b true):=by
 refine C1.yV 113 [.tmp 6] Tryz.func5 λtm h0 h1 h2=>?_;refine zG tyD λK hK=>?_;apply hK.out;refine R1.gen (λA1 H1=>Gr H H1/\H.nx<H1.nx/\H1.get H.nx=some (.arr [u,a,b,w] 29 0 0)/\dm A1 B (ju A1 L (eO A1 3 (.o (.ptr H.nx 0 0 4)) 113 []))) ⟨(Fr.refl _).new _,ba _,aC rfl,zL⟩ ?_;rintro A1 H1 ⟨g1,m1,rx,t1,t2,t3,z0,A0⟩;clear h0 h1 h2 tm hK K;obtain⟨N,hN⟩:=dI H.nx;rw[<-hN]at m1 rx t3;clear hN;have hl:=hl.gr g1;have ha:=ha.gr g1;have hb:=hb.gr g1;have hw:=hw.gr g1;refine zG (qA tyD Tp) λK hK=>?_;refine WE.con (QN H1 u ls hl) λw' H2 g2⟨p1,p2,hq,hp,hr,E4⟩=>?_;subst hq;obtain⟨rx,m1⟩:=bD g2 m1 rx;have ha:=ha.gr g2;have hb:=hb.gr g2;have hw:=hw.gr g2;clear E4 hl;have Y6:∀l,bkO ls=some l->∀x∈l,x.2.length<=1000000:=λl h x hx=>by have:=(TL h).2 x hx;omega
 have I_:∀l,bkO ls=some l->(∀x∈l,x.2.length<=1000000)/\l.length<=1000000:=λl h=>⟨Y6 l h,by have:=(TL h).1;omega⟩;have L0:∀l,bkO ls=some l->∀x∈l,aP x.1 x.2=0:=λl h=>Yf h;generalize bkO ls=o at hp hr Y6 I_ L0;replace Y6:=ay Y6;replace I_:=ay I_;replace L0:=ay L0;have hVV:v.length<=4611686018427387904:=aa;refine zK tyD ?_;refine zG (qA tyD Iv) λK hK=>?_;refine WE.con (Gj H2 w v hw hV) λw' H3 g3⟨w2,hq,X1,_⟩=>?_;subst hq;obtain⟨rx,m1⟩:=bD g3 m1 rx;have ha:=ha.gr g3;have hb:=hb.gr g3;have hw:=hw.gr g3;have hp:=hp.gr g3;have hr:=hr.gr g3;refine zK tyD ?_;refine zG (qA tyD QG) λK hK=>?_;refine WE.con (Nb H3 p1 a b w2 o p v B hp Y6.out L0.out ha hb hB X1 hVV) λw' H4 g4⟨c,e,f,hq,hc,hR⟩=>?_;subst hq;obtain⟨rx,m1⟩:=bD g4 m1 rx;have ha:=ha.gr g4;have hb:=hb.gr g4;have hw:=hw.gr g4;have hp:=hp.gr g4;have hr:=hr.gr g4;have X1:=X1.gr g4;have Q8:=Wt L0.out hR;replace hR:=hd hR;refine zK tyD ?_;refine zG (qA tyD LS) λK hK=>?_;refine WE.con (KE H4 p2 a b w o p v B hr I_.out L0.out ha hb hB hw hVV) λw' H5 g5⟨c',e',f',out,hq,o_,hS,hO⟩=>?_;subst hq;obtain⟨e1,e2⟩:=Nc L0.out hR.out hS hO;subst e1;subst e2;obtain⟨rx,m1⟩:=bD g5 m1 rx;have ha:=ha.gr g5;have hb:=hb.gr g5;have hw:=hw.gr g5;have hp:=hp.gr g5;have hr:=hr.gr g5;have X1:=X1.gr g5;have hc:=hc.gr g5;clear hS hO hR;have hee:(e==e)=true:=dk _;refine zK tyD ?_;refine zG (qA tyD AK) λK hK=>?_;refine WE.con (yR H5 c c' f hc o_ aa) λw' H6 g6 hq=>?_;subst hq;obtain⟨rx,m1⟩:=bD g6 m1 rx;have ha:=ha.gr g6;have hb:=hb.gr g6;have hw:=hw.gr g6;have hp:=hp.gr g6;have hr:=hr.gr g6;have X1:=X1.gr g6;refine zK tyD ?_;refine zG (qA tyD LV) λK hK=>?_;refine WE.con (KJ H6 p1 a b w2 o p v B L hp Y6.out L0.out ha hb hB X1 hVV) λw' H7 g7⟨d,e3,fs,hq,hd1,hR⟩=>?_;subst hq;obtain⟨rx,m1⟩:=bD g7 m1 rx;have ha:=ha.gr g7;have hb:=hb.gr g7;have hw:=hw.gr g7
 have hr:=hr.gr g7;have X1:=X1.gr g7;obtain⟨K9,P6⟩:=Sc hR;replace hR:=hd hR;refine zK tyD ?_;refine zG (qA tyD Iy) λK hK=>?_;refine WE.con (Hg H7 p2 a b w o p v B L hr I_.out L0.out ha hb hB hw hVV) λw' H8 g8⟨d',e4,fs',out2,e0,hq,hd2,hS,hO⟩=>?_;subst hq;obtain⟨e5,e6⟩:=KL hR.out hS hO;subst e5;subst e6;obtain⟨rx,m1⟩:=bD g8 m1 rx;have hw:=hw.gr g8;have X1:=X1.gr g8;have hd1:=hd1.gr g8;clear hS hO hR ha hb hp hr hc o_ hee;have l1:=hd1.len;have l2:=hd1.lt;have l3:=hd2.len;have l4:=hd2.lt;have Q0:(((fs.length:Nat):Int)==((fs.length:Nat):Int))=true:=dk _;replace P6:=hd P6;refine zK tyD ?_;refine R1.gen (λA4 H9=>H9=H8/\eQ A4.tm 3 9 (.o (.ptr N 0 0 4)) (w2) (jt A4 e3 (oy A4 e3 (xe A4 14 15 16 17 (.b true) (d) (d') (.i .i64 (0:Int)) 113 [])))) ⟨rfl,zL⟩ ?_;clear t1 t2 t3 z0 A0 A1 hK K l1 l2 l3 l4 Q0;rintro A H9 ⟨rfl,t3,t9,t11,t13,t14,t15,t16,t17,z0,A0⟩;refine R1.dL λK1 k1 k2 k3 k4=>?_;refine R1.loop (λm A H2=>∃i:Nat,m=fs.length-i/\i<=fs.length/\Gr H9 H2/\eQ A.tm 3 9 (.o (.ptr N 0 0 4)) (w2) (jt A e3 (oy A e3 (xe A 14 15 16 17 (.b true) (d) (d') (.i .i64 (i:Int)) 113 [])))) ?_ fs.length ⟨0,rfl,Nat.zero_le _,Fr.refl _,t3,t9,t11,t13,t14,t15,t16,t17,z0,A0⟩;clear t3 t9 t11 t13 t14 t15 t16 t17 z0 A0 A k3;rintro m A H10 ⟨i,rfl,U3,g10,t3,t9,t11,t13,t14,t15,t16,t17,z0,A0⟩;have hda:=hd1.gr g10;have hdb:=hd2.gr g10;have l1:=hda.len;have l2:=hda.lt;obtain⟨rx10,m10⟩:=bD g10 m1 rx;refine zW tyD ?_;refine zI tyD (λhc=>?_) (λhc=>?_)
 ·have B0:i<fs.length:=aa;have Z':=bB i;have eg:=aA B0;have mg:=bW B0;generalize fs[i]=y at eg mg;have B8:=P6.out y mg;obtain⟨id1,gg1,off1,cells1,hde1,hid1,hgr1,hat1⟩:=iR.open hda aa;obtain⟨id2,gg2,off2,cells2,hde2,hid2,S9,L8⟩:=iR.open hdb aa;obtain⟨u1,J2,a1,a2⟩:=hat1 i y eg;obtain⟨u2,o7,b1,b2⟩:=L8 i y eg;subst hde1;subst hde2;clear hat1 L8 eg mg l1 l2;refine zW tyD ?_;refine R1.dL λK2 q1 q2 q3 q4=>?_;refine zG (zDd tyD (ixC B0) AK) λK hK=>?_;refine WE.con (yR H10 u1 u2 y J2 o7 aa) λw' H11 g11 hq=>?_;subst hq;refine zK tyD ?_;apply q1.out;refine zW tyD ?_;exact⟨fs.length-(i+1),aa,i+1,rfl,B0,g10.gr g11,zL⟩
 have O3:=hw.gr g10;have hw4:=X1.gr g10;have hbe:(e3==e3)=true:=dk _;refine zW tyD ?_;apply k2.out;refine zW tyD ?_;refine zG (qA tyD QD) λK hK=>?_;refine WE.con (Mg H10 w2 w v hw4 O3 hVV) λw' H11 g11 hq=>?_;subst hq;refine zS (qA tyD TH) ?_;refine WE.fJ ZO λHb gb _ _=>?_;refine zK tyD ?_;exact⟨_,_,aw (.b true) (.inr rfl) qe qp,rfl⟩
open Go.ChangeShapes Go.WideShapes Go.ChangeAt Go.RowKit Go.Eng
abbrev TS:=mQ OX (mQ wD Jx)
def JW:mq OX:=tb (gz jh EJ)
def BS:mq wD:=gz xC Rz
def VR{W:World}(hB:tJ W):Opn prog W 4 TS 29:=ik Tryz.underlying29 ae rfl (eS (VT hB) JW (eS (MJ hB) BS (kT (Km hB))))
def RJ{W:World}:Ib prog W 4 TS 29:=yH Tryz.underlying29 ae rfl (uE (pK Tryz.underlying22) JW (uE Kk BS (ER (pK Tryz.underlying27))))
def Yl{B:Nat}{H:Hp}{c:List AC}{x:List Lad×Pz×List Int}(hB:B<=140737488355328)(h:TS B H c x):∃u a b w,c=[u,a,b,w]/\iN H u x.1/\dD H a x.2.1.1/\ei H b x.2.1.2/\PzB x.2.1/\SlI H w x.2.2/\x.2.2.length*8<=B:=by obtain⟨c1,c2,rfl,h1,c3,c4,rfl,h2,h3⟩:=h;obtain⟨u,e,m7⟩:=id h1;subst e;obtain⟨a,b,rfl,k1,k2,k3⟩:=aco hB h2;obtain⟨w,rfl,k4,k5⟩:=OU h3;exact⟨u,a,b,w,rfl,(YK h1).1,k1,k2,k3,k4,k5⟩
def ZA:∀t∈[29,30],prog.readableRec t=true/\t<prog.types.size:=by
 have h1:prog.readableRec 29=true:=ae;have h2:prog.readableRec 30=true:=ae;have k1:decide (29<prog.types.size)=true:=ae;have k2:decide (30<prog.types.size)=true:=ae;intro t ht;simp only[List.mem_cons,List.not_mem_nil,or_false]at ht;rcases ht with rfl|rfl
 ·exact⟨h1,pX k1⟩
 exact⟨h2,pX k2⟩
def Wp:∀t∈[29,3,3],prog.readableRec t=true/\t<prog.types.size:=by
 have h1:prog.readableRec 3=true:=ae;have k1:decide (3<prog.types.size)=true:=ae;intro t ht;simp only[List.mem_cons,List.not_mem_nil,or_false]at ht;rcases ht with rfl|rfl|rfl
 ·exact ZA _ (by simp)
 ·exact⟨h1,pX k1⟩
 exact⟨h1,pX k1⟩
def Ci(os:Os)(started:os.Started)(H:Type)(enc:TypeId×Value->H):
  ReturnsInHanded {} Tryz.checked os 5 .any (Rows.accountRepairsSpec.pre6 enc prog Tryz.f5 Rows.accountRepairsRow.domain false) (Rows.accountRepairsSpec.post enc prog Tryz.f5 false true false false):=by
 refine returnsInHanded_of_change_sized (C:=Tryz.checked) Tryz.own started ae Tryz.func5
  (ChangeSpec.witness6 (enc:=enc) (C:=Tryz.checked) false ⟨#[],#[.agg #[.slice none 0 0,.slice none 0 0,.slice none 0 0,.slice none 0 0],.int .i64 0,.int .i64 0],[]⟩ 8 ae ae ae ae) ?_
 intro W base args ds gs before hval0 hW hcnd0 B2 _;clear hcnd0;have hval:∀(j:Nat)t v,Tryz.f5.params[j]?=some t->args[j]?=some v->Value.okWide prog W .any base t v:=hval0;have hW':=hW;obtain⟨p,q,hA0,hV,rfl,hfz,Q5⟩:=hW;have hA:DataW.TrodAll enc prog W 0 (λ_=>true) true Tryz.f5.params.toList args.toList ds p:=hA0;rw[Tryz.params5]at hA hval B2;have hAll:=hA;obtain⟨v0,v1,v2,d0,d1,d2,p0,p1,p2,rfl,rfl,rfl,h0,h1,h2⟩:=trodAll_three hA;obtain⟨rfl,rfl⟩:=trodVars_none hV;clear hA0 hval0;simp only[List.append_nil]at hW' hfz;have hw:∀(j:Nat)(t:TypeId)(d:DataW H),[29,3,3][j]?=some t->[d0,d1,d2][j]?=some d->∀n∈d.weights prog t,n<=reachBytes:=λj t d ht hd n hn=>by have:=List.all_eq_true.1 B2 n (DataW.weights_mem_each (j:=j) (by rw[iw (by have:=(List.getElem?_eq_some_iff.1 ht).1;exact this)];exact ht) (by rw[iw (by have:=(List.getElem?_eq_some_iff.1 hd).1;exact this)];exact hd) n hn);simpa using this
 obtain⟨y0,u0,l0,a0,b0,_,c0⟩:=VV Tryz.underlying29 (λhB=>VR hB) RJ (hval 0 _ v0 rfl rfl) h0 (hw 0 _ _ rfl rfl) [] WB;obtain⟨n,rfl,rfl,rfl,_⟩:=open_int Tryz.underlying3 (hval 1 _ v1 rfl rfl) h1;obtain⟨m,rfl,rfl,rfl,_⟩:=open_int Tryz.underlying3 (hval 2 _ v2 rfl rfl) h2;obtain⟨u,a,b,w,rfl,e0,e1,e2,e3,e4,e5⟩:=Yl KI c0;have R0:=IK (E:=E2) ab4 (f:=5) (args:=[.agg [u,a,b,w],.one (.i .i64 n),.one (.i .i64 m)]) (vs:=[v0,.int .i64 n,.int .i64 m]) (w:=W) (l:=[]++y0) a0
  ⟨b0,rfl,rfl,trivial⟩
  (Df _ u a b w n m l0.1 l0.2.1 l0.2.2 e0 e1 e2 e3 e4 (aS e5 KI))
 refine R0.mono λe W'⟨he,hw⟩=>?_;subst he;have B0:∀x∈p0++[]++[],x.block<W.heap.size:=λx hx=>hW'.lt x (by simpa using hx);exact⟨_,rfl,Ve rfl hW' rfl ae rfl rfl rfl (yw hw) λsp j8=>tX Tryz.laidOut (yw hw) Wp (by simpa using hAll) (by simpa using B0) j8⟩
theorem repairs_holds:Rows.AccountRepairsSaid:=
 OpenClaim.holds_of_wide 5 Tryz.f5 rfl rfl rfl rfl rfl rfl rfl ⟨rfl,rfl,rfl,rfl,rfl⟩ rfl rfl rfl rfl rfl ae Tryz.func5 ae
  (pX ae) (by unfold Func.isWrapper;first|(rw[ad (by decide +kernel)];kernel_rfl)|(rw[ab (by decide +kernel)];exact⟨rfl,rfl⟩))
  (λos started H enc _=>Ci os started H enc)
end Go.Proofs.YtgepceljhelekaaGreat

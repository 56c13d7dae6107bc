/- A part of the proof. -/
import Derived.Test.YtgepceljhelekaaGreatPAAk
set_option maxRecDepth 100000
set_option maxHeartbeats 64000000
set_option linter.all false
open Go.Proofs.Tryz (prog)
namespace Go.Proofs.YtgepceljhelekaaGreat
open Go Go.Eng
section
variable{z:Sg}{X Y:Nat->Prop}{H1 H H':Hp}{F:AC}{found:List (List Fx)}{r0 r:Option Nat}
def DfM.fr2{dl:List Nat}(h:DfM X H1 H dl)(f:Fr Y H H')(hy:∀d∈dl,¬Y d):DfM X H1 H' dl:=⟨h.1,λd hd=>by obtain⟨a,b,c,e⟩:=h.2 d hd;exact⟨a,b,ax c f.nx,(f.get d c (hy d hd)).trans e⟩⟩
def DfM.sm{dl:List Nat}{L:Nat}(h:DfM X H1 H dl)(s:Sm L H H')(hy:L∉dl):DfM X H1 H' dl:=⟨h.1,λd hd=>by obtain⟨a,b,c,e⟩:=h.2 d hd;exact⟨a,b,ax c s.nx,(s.get d c λhh=>hy (by rw[<-hh];exact hd)).trans e⟩⟩
def Wk.call2(h:Wk z X H1 r0 H F found r)(f:Fr (SrC z.S r) H H'){P:List (List Fx)->Prop}(q:FrQ z X H.nx r P H'):∃F' r' found',Wk z X H1 r0 H' F' found' r'/\(∀k,r'=some k->r=some k\/H.nx<=k)/\P found':=by obtain⟨F',r',found',h1,h2,h3⟩:=q;have hn:=h.nx.1;exact⟨F',r',found',⟨h.nx.then (Nx.of f) λi hi=>hi.elim (λe=>.inl (.inl e)) λe=>(h.rr i e).imp .inr id,h1,λk hk=>(h2 k hk).elim (h.rr k) λh4=>.inr (aS hn h4)⟩,h2,h3⟩
def Wk.kept(h:Wk z X H1 r0 H F found r){k:Nat}(hx:X k)(hs:k≠z.S):¬SrC z.S r k:=λhh=>hh.elim hs λe=>(h.nr k e).2 hx
end
abbrev xX(z:Sg)(items:List Fx)(given:List Nat)(w:Option Nat)(i:Nat)(rl:Rl)(ps:List Int):List Fx->List Fx->Prop:=uT z.v z.lr (kF z.ld z.v) z.c items given w i rl ps
abbrev SC(z:Sg)(items:List Fx)(given:List Nat)(w:Option Nat)(i:Nat)(rl:Rl)(ps:List Int)(p:Int)(S:List Int):List Fx->List Fx->Prop:=SB z.v z.lr (kF z.ld z.v) z.c items given w i rl ps p S
def slZ(z:Sg)(p:Int):List Sp:=gM (z.ld.getD p.toNat ([],[])).2 (az (z.ld.getD p.toNat ([],[])).2 (z.v.getD p.toNat 0)) (eY (z.ld.getD p.toNat ([],[])).1 (z.ld.getD p.toNat ([],[])).2) (z.v.getD p.toNat 0)
def acy{c:Code}(hc:atF Tryz.f102 [1,0,1,1,1,1,1,1,1,1,0,0,1,1,0,0,1,1,1,0,0,1,1,0,0,1,1,1]=some c){z:Sg}(E0:mu z.ld z.lr z.v)(V8:z.c<=3){X:Nat->Prop}{H1:Hp}{b l:Nat}{iv nv mv F:AC}{items:List Fx}{given:List Nat}{r0 r:Option Nat}{f0 found:List (List Fx)}{H:Hp}{A:ag}{K:au->ag->Hp->Prop}{dl:List Nat}
  (hB:Bs z H1 b iv nv mv (l+1) items given r0) (hW:Wk z X H1 r0 H F found r) (hD:DfM X H1 H dl) (W4:xY z l) {w:Option Nat} {i PB RB:Nat} {rl:Rl} {p wi ni:Int} {ps:List Int} {u102 u103 u104 u123 u124 u125:AC}
  (u6:rl∈z.lr) (hp:p∈rl.2) (w_:(aY z.v items).getD p.toNat 0=z.v.getD p.toNat 0) (hL:LpZ z items given f0 found (xX z items given w i rl (p::ps)))
  (hPB:H.get PB=some (.arr [.i .i64 p] 3 0 0)) (hPX:X PB) (hPS:PB≠z.S)
  (hs:dR A z.C1 z.C2 z.C3 b (b+1) (b+2) (b+3) wi (nj A ni RB (ZR A.tm 102 103 104 123 124 125 (u102) (u103) (u104) (u123) (u124) (u125) (oz A PB (A.nt=228/\A.dfr=dl)))))
  (hK:∀(A2:ag)(H2:Hp)(X':Nat->Prop)(F':AC)(r':Option Nat)(found':List (List Fx))(dl':List Nat),Fr (SrC z.S r) H H2->(∀k,X k->X' k)->Wk z X' H1 r0 H2 F' found' r'->DfM X' H1 H2 dl'->LpZ z items given f0 found' (xX z items given w i rl ps)->dR A2 z.C1 z.C2 z.C3 b (b+1) (b+2) (b+3) wi (nj A2 ni RB (XJ A2 102 103 104 123 124 125 (u102) (u103) (u104) (u123) (u124) (u125) 228 dl'))->K .normal A2 H2):R1 E2 none c A H K:=by
 cases hc
 obtain⟨t4,t5,t6,t7,t8,t9,t10,t11,t16,t17,t102,t103,t104,t123,t124,t125,t19,z0,A0⟩:=hs;have C4:=E0.rp.pr rl u6 p hp;have Z1:=E0.vl;have htl:p<z.ld.length:=aa;obtain⟨L0,G7,G5⟩:=E0.lad C4.1 C4.2;have hW0:=hW;obtain⟨S7,U5⟩:=hW.st.own;obtain⟨idv,gv,offv,cellsv,U_,T4,V4,e3,e4⟩:=nS hW.st.dat.now.vi C4.1 C4.2;obtain⟨idl,gl,offl,cellsl,ul,J8,W7,B7,Y4,f3,f4⟩:=vU hW.st.dat.now.la C4.1 htl;have U8:∀k,SrX z.S z.N k->k∉(AV.one ul).ids:=λk hk=>hW.st.dat.acH C4.1 htl J8 B7 f3 hk;rw[U_,J8]at U5;have hPn:PB<H.nx:=hW.st.xn PB hPX;have c1:z.C1<H.nx:=by have:=hW.st.clo.n;omega
 have G1:=hW.st.clo.g1;have lul:=Y4.lt;replace hB:=hd hB;replace hW:=hd hW;replace hW0:=hd hW0;replace hK:=hd hK;replace hL:=hd hL;replace hD:=hd hD;replace U8:=hd U8;replace Y4:=hd Y4;replace Z1:=hd Z1;replace w_:=hd w_;replace L0:=hd L0;replace U_:=hd U_;replace J8:=hd J8;replace hPX:=hd hPX;replace hPS:=hd hPS;refine zO (zDe tyR (ixI C4.1 C4.2) (ixI C4.1 htl) IA) λK1 T8=>?_;refine WE.po (FA H (.o (.str (z.ld.getD p.toNat ([],[])).1)) ul (z.v.getD p.toNat 0) lul) λw' H5 g5⟨hv5,U3,O8,I9⟩=>?_;subst hv5;refine zQ tyR ?_;apply T8.out;obtain⟨il,hile⟩:=dI H.nx;rw[<-hile]at U3 O8 I9;refine R1.lq (λA4=>dR A4 z.C1 z.C2 z.C3 b (b+1) (b+2) (b+3) wi (nj A4 ni RB (ZR A4.tm 102 103 104 123 124 125 (u102) (u103) (u104) (u123) (u124) (u125) (oz A4 PB (eO A4 215 (.o (.clo 65 [(il,0,0,2),(il+1,0,0,1)])) 228 dl))))) (by rw[hile];exact zL) ?_;clear t4 t5 t6 t7 t8 t9 t10 t11 t16 t17 t102 t103 t104 t123 t124 t125 t19 z0 A0 A T8 K1;rintro A ⟨t4,t5,t6,t7,t8,t9,t10,t11,t16,t17,t102,t103,t104,t123,t124,t125,t19,t215,z0,A0⟩;have hul5:SlP H5 ul (z.ld.getD p.toNat ([],[])).2:=Y4.out.gr g5;have hSB:=zN L0.out (show(0:Int)<=z.v.getD p.toNat 0 by omega) G5;obtain⟨S,hS⟩:∃S,S=slZ z p:=⟨_,rfl⟩;have hkS:∀y∈S,kF z.ld z.v p y.2.2≠0:=λy hy=>by rw[hS]at hy;exact EA (λx hx=>((Fy L0.out G7 hx).1).1) ⟨y,hy,rfl⟩
 have hL0:LpZ z items given f0 found (SC z items given w i rl ps p (S.map λx=>x.2.2)):=Lp.acz hL.out λto hto=>by obtain⟨x,hx,e,_⟩:=vT (m:=to) hto;rw[hS];exact List.mem_map.2 ⟨x,hx,e⟩
 have hSH:H1.nx<=H.nx:=hW.out.nx.1;have hNn:z.N<=H1.nx:=by have:=hB.out.nb;have:=hB.out.n;omega
 have B_:z.S<H1.nx:=by have h1:=hB.out.ne;have h2:=hB.out.n;exact fL λhh=>h1 z.S aa (.inl rfl)
 have hdlt:∀d∈dl,d<H.nx:=λd hd=>(hD.out.2 d hd).2.2.1;obtain⟨X',hX'⟩:∃X',X'=Xp X H.nx (H5.nx+2):=⟨_,rfl⟩;have hXX:∀k,X k->X' k:=λk hk=>by rw[hX'];exact .inl hk
 have hXn:∀k,H.nx<=k->k<H5.nx+2->X' k:=λk h1 h2=>by rw[hX'];exact .inr ⟨h1,h2⟩
 replace hS:=hd hS;replace hkS:=hd hkS;replace hL0:=hd hL0;replace hdlt:=hd hdlt;replace hXX:=hd hXX;replace hXn:=hd hXn;replace hX':=hd hX';refine R1.mD λK1 k1 k2 k3 k4=>?_;refine R1.range (σ:=AC×Option Nat×List (List Fx)) (g:=65) (caps:=[(il,0,0,2),(il+1,0,0,1)]) (n:=S.length) (ar:=slA S) (D:=λk=>k=il\/k=il+1\/k∈(AV.one ul).ids) (by simp only[DU,t215]) Dz (λ_=>rfl)
  (Fz H5 il (il+1) (z.ld.getD p.toNat ([],[])).1 ul (z.ld.getD p.toNat ([],[])).2 (z.v.getD p.toNat 0) aa U3 I9 O8 hul5 L0.out G7 G5 _ _ rfl rfl hSB S hS.out.symm) (λk hk=>by
   rcases hk with h|h|h
   ·omega
   ·omega
   have h2:k<H.nx:=lul k h;have:=g5.nx;omega) (by rw[z0];rfl) (λi _=>PV S i)
  (λk s H6=>Hd (Wk z X' H1 r0 H6 s.1 s.2.2 s.2.1)/\Hd (LpZ z items given f0 s.2.2 (SC z items given w i rl ps p ((S.drop k).map λx=>x.2.2)))/\Hd (DfM X' H1 H6 dl)/\H6.get PB=some (.arr [.i .i64 p] 3 0 0)/\H5.nx+2<=H6.nx)
  (λ_ _ _=>False)
  (λs k=>SrC z.S s.2.1 k) ?_ ?_ ?_ (F,r,found) ?_ ?_ ?_ ?_
 ·rintro k s H6 H7 ⟨a1,a2,a3,a4,a5⟩ hs;have:=g5.nx;exact⟨a1.out.sm hs (hXn.out _ aa aa) aa aa aa,a2,a3.out.sm hs λhh=>by have:=hdlt.out _ hh;omega,(hs.get _ aa aa).trans a4,aS a5 hs.nx⟩
 ·rintro e s H6 H7 h hs;exact h
 ·rintro k s H6 q ⟨a1,a2,a3,a4,a5⟩ hq;have g5n:=g5.nx;rcases hq with hq|hq
  ·subst hq;refine⟨aa,aa,aa,λh=>?_⟩;rcases h with h|h|h
   ·omega
   ·omega
   exact U8.out _ (.inl rfl) h
  obtain⟨b1,b2⟩:=a1.out.nr q hq;have b3:=a1.out.st.rn q hq;refine⟨b1,λe=>b2 (hXn.out _ aa aa),λe=>b2 (hXn.out _ aa aa),λh=>?_⟩;rcases h with h|h|h
  ·exact b2 (hXn.out _ aa aa)
  ·exact b2 (hXn.out _ aa aa)
  exact U8.out _ (.inr b3) h
 ·intro H6 g6 n6;have g56:=g5.gr g6;refine⟨?_,by rw[List.drop_zero];exact hL0.out,(hD.out.fr2 g56 λ_ _ h=>h).wide hXX.out,(g56.get _ hPn aE).trans hPB,aa⟩;have h1:=hW.out.grow g56;rw[n6]at h1;rw[hX'.out];exact h1
 ·rintro k s H6 hk ⟨a1,a2,a3,a4,a5⟩ n6;obtain⟨F6,r6,found6⟩:=s;replace a1:=ay a1;have hy:=aA hk;have M0:=List.drop_eq_getElem_cons hk;have T9:=bW hk;generalize S[k]=y at hy M0 T9;have hky:=hkS.out y T9;replace a2:LpZ z items given f0 found6 (SC z items given w i rl ps p ((S.drop k).map λx=>x.2.2)):=a2;rw[M0,List.map_cons]at a2;rw[Nh hy];obtain⟨kd,sg,nn⟩:=y;refine R1.lq (λA7=>CH A7 z.C3 b (b+1) (b+2) (b+3) (oz A7 PB (slot A7.tm 216=.agg [.i .i64 kd,.o (.str sg),.i .i64 nn]/\A7.nt=228/\A7.dfr=[]))) ⟨?_,?_,?_,?_,?_,?_,?_,z0,rfl⟩ ?_
  ·show slot (A.tm.set 216 _) 6=_;simp only[dt,Nat.reduceEqDiff,reduceIte,t6]
  ·show slot (A.tm.set 216 _) 7=_;simp only[dt,Nat.reduceEqDiff,reduceIte,t7]
  ·show slot (A.tm.set 216 _) 8=_;simp only[dt,Nat.reduceEqDiff,reduceIte,t8]
  ·show slot (A.tm.set 216 _) 9=_;simp only[dt,Nat.reduceEqDiff,reduceIte,t9]
  ·show slot (A.tm.set 216 _) 10=_;simp only[dt,Nat.reduceEqDiff,reduceIte,t10]
  ·show slot (A.tm.set 216 _) 19=_;simp only[dt,Nat.reduceEqDiff,reduceIte,t19]
  ·show slot (A.tm.set 216 _) 216=_;simp only[dt,Nat.reduceEqDiff,reduceIte];rfl
  clear t4 t5 t6 t7 t8 t9 t10 t11 t16 t17 t102 t103 t104 t123 t124 t125 t19 t215 z0 A0 hPB U5 G1 U3 I9 O8 B7 V4 T4 W7 e3 e4 f3 f4;rintro A7 ⟨t6,t7,t8,t9,t10,t19,t216,z0,A0⟩;clear M0 hy;replace a2:=hd a2;replace hky:=hd hky;replace T9:=hd T9;refine zW tyR ?_;refine⟨rfl,((Fr.refl _).new _).mod _ (.inl (ai _)),λH8 n8 s8=>?_⟩;have g67:Gr H6 ((H6.new (.arr [.i .i64 0,.o (.str []),.i .i64 0] 63 0 0)).mod H6.nx (.arr [.i .i64 kd,.o (.str sg),.i .i64 nn] 63 0 0)):=((Fr.refl _).new _).mod _ (.inl (ai _));have gu:H8.get H6.nx=some (.arr [.i .i64 kd,.o (.str sg),.i .i64 nn] 63 0 0):=by rw[s8.get _ (by show H6.nx<H6.nx+1;omega) aa];exact aq rfl
  have n8':H8.nx=H6.nx+1:=n8;have g5n:=g5.nx;have hW8:Wk z X' H1 r0 H8 F6 found6 r6:=(a1.out.gr g67).sm s8 (hXn.out _ aa aa) aa aa aa;have hD8:DfM X' H1 H8 dl:=(a3.out.fr2 g67 λ_ _ h=>h).sm s8 λhh=>by have:=hdlt.out _ hh;omega
  have hP8:H8.get PB=some (.arr [.i .i64 p] 3 0 0):=by rw[s8.get _ (by show PB<H6.nx+1;omega) aa,aB aa,bw aa];exact a4
  have lu:H6.nx<H8.nx:=aa;have hPn8:PB<H8.nx:=aa;clear n8 s8 g67;obtain⟨x0,x1,x2,x3,⟨m0,m1⟩,m2,m3⟩:=hB.out.box hW8.nx;have hk8:=hB.out.kpn hW8.nx hW8.rr;have c3:z.C3<H8.nx:=by have:=hW8.st.clo.n;omega
  have G3:=hW8.st.clo.g3;replace hW8:=hd hW8;replace hk8:=hd hk8;replace hD8:=hd hD8;replace n8':=hd n8';refine R1.lS λK2 p1 p2 p3 p4=>?_;replace p1:=hd p1;refine zG (qA tyR Tr) λK3 F8=>?_;refine WE.con (Ow E0 V8 W4 X' H8 iv nv mv F6 items given found6 r6 p nn rl hW8.out.st hk8.out hB.out.I hB.out.nd hB.out.gl hB.out.cc u6 hp w_.out hky.out) λw' H9 f9⟨hw,hq⟩=>?_;subst hw;obtain⟨F9,r9,found9,hW9,P7,hP9⟩:=hW8.out.call2 f9 hq;have hL9:=Lp.slip a2.out hP9;have hXP:=hXX.out _ hPX.out;have hP9':H9.get PB=some (.arr [.i .i64 p] 3 0 0):=(f9.get _ hPn8 (hW8.out.kept hXP hPS.out)).trans hP8;have hD9:DfM X' H1 H9 dl:=hD8.out.fr2 f9 λd hd=>hW8.out.kept (hD8.out.2 d hd).1 (by have:=(hD8.out.2 d hd).2.1;omega);have n9:=f9.nx;have n6':H6.nx<=H9.nx:=by have:=n8'.out;omega
  have n56:H5.nx+2<=H9.nx:=aa;have Q9:∀q,r9=some q->r6=some q\/H6.nx<=q:=λq hq=>(P7 q hq).imp id λh=>by have:=n8'.out;omega
  clear hP9 hq P7;replace hW9:=hd hW9;replace hL9:=hd hL9;replace hD9:=hd hD9;replace Q9:=hd Q9;replace f9:=hd f9;refine zS tyR ?_;apply F8.out;exact p1.out _ _ ⟨qe,f9.out.mono λq hq=>.inl hq,(F9,r9,found9),λ_=>⟨hW9,hL9,hD9,hP9',n56⟩,λh=>absurd rfl h,λq hq=>hq.elim (λh=>.inl (.inl h)) λh=>(Q9.out q h).imp .inr id⟩
 ·rintro s' H6 ⟨a1,a2,a3,a4,a5⟩ n6 hd6 X6 M7;have g5n:=g5.nx;apply k1.out;have hLe:LpZ z items given f0 s'.2.2 (xX z items given w i rl ps):=Lp.abf (by have:=a2.out;rw[ct]at this;exact this)
  refine hK.out _ _ X' s'.1 s'.2.1 s'.2.2 (H5.nx::dl) ((Fr.none g5).then X6 λk hk=>.inr hk) hXX.out a1.out (a3.out.cons (λhh=>by have:=hdlt.out _ hh;omega) (hXn.out _ aa aa) aa aa hd6) hLe ⟨t4,t5,t6,t7,t8,t9,t10,t11,t16,t17,t102,t103,t104,t123,t124,t125,z0,?_⟩;show H5.nx::A.dfr=_;rw[A0]
 rintro e s' H6 Q0 h;exact h.elim
def Xd{v:List Int}(hv:∀j,0<=v.getD j 0/\v.getD j 0<=1099511627776):∀ps:List Int,0<=yZ v ps/\yZ v ps<=ps.length*1099511627776
 |[]=>⟨ot _,by show(0:Int)<=_;simp⟩
 |p::ps=>by have ih:=Xd hv ps;have h:=hv p.toNat;have e:yZ v (p::ps)=v.getD p.toNat 0+yZ v ps:=rfl;rw[e,List.length_cons];omega
def abq{v:List Int}{lr:List Rl}{K:Int->Int->Int}(E0:gI v lr K){l:List Fx}(hl:cN v lr K l)(j:Nat):0<=(aY v l).getD j 0/\(aY v l).getD j 0<=1099511627776:=by
 by_cases hm:∃y∈l,y.1.toNat=j
 ·obtain⟨y,hy,rfl⟩:=hm;have hyo:=hl.ok y hy;have J4:=hyo.1;rw[tj l v hl.pw y hy aa];have:=(E0.kb y.1 y.2.2.1 (by rw[<-hyo.2.2.1];exact hyo.2.2.2.1)).1;omega
 rw[kK l v j λy hy e=>hm ⟨y,hy,e⟩];exact E0.vb j
def acC{v:List Int}{lr:List Rl}{K:Int->Int->Int}(E0:gI v lr K){l:List Fx}(hl:cN v lr K l){r:Rl}(hr:r∈lr):0<=bN (aY v l) 0 r.2/\bN (aY v l) 0 r.2<=70368744177664:=by have G9:=E0.pl r hr;have hb:=abq E0 hl;have e:=zU hb r.2 0 (ot _) aa;have h2:=Xd hb r.2;omega
def Wk.frc{z:Sg}{X:Nat->Prop}{H1 H H':Hp}{F:AC}{found:List (List Fx)}{r0 r:Option Nat}(h:Wk z X H1 r0 H F found r)(hF:Fr (SrC z.S r0) H1 H)(f:Fr (SrC z.S r) H H'):Fr (SrC z.S r0) H1 H':=
 hF.then f λ_ hk=>hk.elim (λe=>.inr (.inl e)) λe=>(h.rr _ e).elim (λh=>.inr (.inr h)) .inl
def SlI.step{z:Sg}{X:Nat->Prop}{H1 H H':Hp}{F:AC}{found:List (List Fx)}{r0 r:Option Nat}{u:AC}{l:List Int}(h:SlI H u l)(hW:Wk z X H1 r0 H F found r)(f:Fr (SrC z.S r) H H')(hu:∀k,SrX z.S z.N k->k∉(AV.one u).ids):SlI H' u l:=
 SlC.fr h f λk hk hh=>hu k (hh.imp id λe=>hW.st.rn k e) hk
def abi{c:Code}(hc:atF Tryz.f102 [1,0,1,1,1,1,1,1,1,1,0,0,1,1,0,0,1,1,1]=some c){z:Sg}(E0:mu z.ld z.lr z.v)(V8:z.c<=3){X0:Nat->Prop}{H1:Hp}{b l:Nat}{iv nv mv F0:AC}{items:List Fx}{given:List Nat}{r0 r1:Option Nat}{f0 found0:List (List Fx)}{H:Hp}{A:ag}{K:au->ag->Hp->Prop}{dl0:List Nat}
  (hB:Bs z H1 b iv nv mv (l+1) items given r0) (hF0:Fr (SrC z.S r0) H1 H) (hW0:Wk z X0 H1 r0 H F0 found0 r1) (hD0:DfM X0 H1 H dl0) (W4:xY z l) {w:Option Nat} {i RB:Nat} {rl:Rl} {u1 u102 u103 u104:AC}
  (u6:z.lr[i]?=some rl) (hL0:LpZ z items given f0 found0 (xX z items given w i rl rl.2)) (hu0:SlI H u1 rl.2) (huk:∀k,SrX z.S z.N k->k∉(AV.one u1).ids)
  (hRB:H.get RB=some (.arr [.i .i64 rl.1,u1] 82 0 0)) (hRX:X0 RB) (D_:RB≠z.S)
  (hs:dR A z.C1 z.C2 z.C3 b (b+1) (b+2) (b+3) (wI w) (nj A i RB (XJ A 102 103 104 123 124 125 (u102) (u103) (u104) (u1) (.i .i64 (rl.2.length:Int)) (.i .i64 (0:Int)) 228 dl0)))
  (hK:∀(A2:ag)(H2:Hp)(X':Nat->Prop)(F':AC)(r':Option Nat)(found':List (List Fx))(dl':List Nat),Fr (SrC z.S r0) H1 H2->(∀k,X0 k->X' k)->Wk z X' H1 r0 H2 F' found' r'->DfM X' H1 H2 dl'->LpZ z items given f0 found' (tP z items given w (i+1))->dR A2 z.C1 z.C2 z.C3 b (b+1) (b+2) (b+3) (wI w) (oA A2 102 103 104 (u102) (u103) (u104) 228 dl')->K .normal A2 H2):R1 E2 none c A H K:=by
 cases hc
 obtain⟨t4,t5,t6,t7,t8,t9,t10,t11,t16,t17,t102,t103,t104,t123,t124,t125,z0,A0⟩:=hs;have hrm:rl∈z.lr:=gN u6;have G9:=E0.rp.pl rl hrm;have G6:=E0.rp.tr rl hrm;have Z1:=E0.vl;have B_:z.S<H1.nx:=by have h1:=hB.ne;have h2:=hB.n;exact fL λhh=>h1 z.S aa (.inl rfl)
 have hNn:z.N<=H1.nx:=by have:=hB.nb;have:=hB.n;omega
 obtain⟨Z2,J3⟩:=acC E0.rp hB.I hrm;replace hB:=hd hB;replace hK:=hd hK;replace huk:=hd huk;replace Z1:=hd Z1;replace u6:=hd u6;replace hRX:=hd hRX;replace D_:=hd D_;refine R1.mD λK1 k1 k2 k3 k4=>?_;refine R1.loop (λm A H2=>∃(j:Nat)(X:Nat->Prop)(F:AC)(r:Option Nat)(found:List (List Fx))(dl:List Nat),m=rl.2.length-j/\j<=rl.2.length/\Hd (Fr (SrC z.S r0) H1 H2)/\Hd (∀k,X0 k->X k)/\Hd (Wk z X H1 r0 H2 F found r)/\Hd (DfM X H1 H2 dl)/\Hd (LpZ z items given f0 found (xX z items given w i rl (rl.2.drop j)))/\Hd (SlI H2 u1 rl.2)/\H2.get RB=some (.arr [.i .i64 rl.1,u1] 82 0 0)/\dR A z.C1 z.C2 z.C3 b (b+1) (b+2) (b+3) (wI w) (nj A i RB (ky A.tm 102 103 104 (u102) (u103) (u104) (qh A (u1) rl.2.length j (A.nt=228/\A.dfr=dl))))) ?_ rl.2.length
  ⟨0,X0,F0,r1,found0,dl0,rfl,Nat.zero_le _,hF0,λ_ h=>h,hW0,hD0,by rw[List.drop_zero];exact hL0,hu0,hRB,t4,t5,t6,t7,t8,t9,t10,t11,t16,t17,t102,t103,t104,t123,t124,t125,z0,A0⟩
 clear t4 t5 t6 t7 t8 t9 t10 t11 t16 t17 t102 t103 t104 t123 t124 t125 z0 A0 A hF0 hW0 hD0 hL0 hu0 hRB H;rintro m A H2 ⟨j,X,F,r,found,dl,rfl,hjl,hF,hX0,hW,hD,hL,hu,hRB,t4,t5,t6,t7,t8,t9,t10,t11,t16,t17,t102,t103,t104,t123,t124,t125,z0,A0⟩;refine zW tyR ?_;refine zI tyR (λM9=>?_) (λM9=>?_)
 ·have B0:j<rl.2.length:=aa;have ex:=aA B0;have M0:=List.drop_eq_getElem_cons B0;have Y1:=cK B0;have D0:=bW B0;generalize rl.2[j]=p at ex M0 Y1 D0;have X1:=bB j;have C4:=E0.rp.pr rl hrm p D0;have htl:p<z.ld.length:=by have:=Z1.out;omega
  have hL:=hL.out;rw[M0]at hL;obtain⟨idp,gp,offp,cellsp,hu1e,hidp,hgrp,J0⟩:=hu.out.open aa;obtain⟨d1,d2⟩:=J0 j p ex;clear J0 Y1 M0;rw[hu1e]at t123;replace hu1e:=hd hu1e;replace ex:=hd ex;replace hL:=hd hL;replace D0:=hd D0;refine zW tyR ?_;refine R1.dL λK2 q1 q2 q3 q4=>?_;refine zG (qA tyR (ixC B0)) λK5 V0=>?_;apply V0.out;refine R1.gen (λA4 H4=>Gr H2 H4/\H2.nx<H4.nx/\H4.get H2.nx=some (.arr [.i .i64 p] 3 0 0)/\dR A4 z.C1 z.C2 z.C3 b (b+1) (b+2) (b+3) (wI w) (nj A4 i RB (ky A4.tm 102 103 104 (u102) (u103) (u104) (oz A4 H2.nx (qh A4 (u1) rl.2.length j (A4.nt=228/\A4.dfr=dl))))))
   ⟨((Fr.refl _).new _).mod _ (.inl (ai _)),ba _,aq rfl,by rw[hu1e.out];exact zL⟩ ?_
  clear t4 t5 t6 t7 t8 t9 t10 t11 t16 t17 t102 t103 t104 t123 t124 t125 z0 A0 A hidp hgrp d1 d2 V0 K5;rintro A H4 ⟨g4,n4,hPB,t4,t5,t6,t7,t8,t9,t10,t11,t16,t17,t102,t103,t104,t19,t123,t124,t125,z0,A0⟩;obtain⟨PB,hPe⟩:=dI H2.nx;rw[<-hPe]at n4 hPB t19;have X2:=hW.out.grow g4;have G8:Fr (SrC z.S r0) H1 H4:=hF.out.gr g4;have hn12:H1.nx<=H2.nx:=hW.out.nx.1;obtain⟨X4,hX4⟩:∃X4,X4=Xp X H2.nx H4.nx:=⟨_,rfl⟩;rw[<-hX4]at X2;have hXX:∀k,X k->X4 k:=λk hk=>by rw[hX4];exact .inl hk
  have hXP:X4 PB:=by rw[hX4];exact .inr ⟨aa,n4⟩
  have hPS:PB≠z.S:=aa;have r_:DfM X4 H1 H4 dl:=(hD.out.fr2 g4 λ_ _ h=>h).wide hXX;have D7:∀k,X0 k->X4 k:=λk hk=>hXX k (hX0.out k hk);have hu4:SlI H4 u1 rl.2:=SlI.gr hu.out g4;have hRn:RB<H2.nx:=hW.out.st.xn RB (hX0.out RB hRX.out);have hR4:H4.get RB=some (.arr [.i .i64 rl.1,u1] 82 0 0):=(g4.get _ hRn aE).trans hRB;have hRn4:RB<H4.nx:=ax hRn g4.nx;obtain⟨x0,x1,x2,x3,⟨m0,m1⟩,m2,m3⟩:=hB.out.box X2.nx;have D8:=hB.out.now X2.nx;obtain⟨S7,U5⟩:=X2.st.own;obtain⟨idv,gv,offv,cellsv,U_,T4,V4,e3,e4⟩:=nS X2.st.dat.now.vi C4.1 C4.2;have O6:=dH items z.v;obtain⟨idn,gn,offn,cellsn,hnve,hidn,hgrn,e5,e6⟩:=nS D8.nw C4.1 (by rw[O6];exact C4.2);have hpa:p<(aY z.v items).length:=by rw[O6];exact C4.2
  have c1:z.C1<H4.nx:=by have:=X2.st.clo.n;omega
  have G1:=X2.st.clo.g1;have x1':=x1;rw[hnve]at x1';have C_:=U5;rw[U_]at C_;replace X2:=hd X2;replace G8:=hd G8;replace hX4:=hd hX4;replace hXX:=hd hXX;replace hXP:=hd hXP;replace hPS:=hd hPS;replace hPe:=hd hPe;replace r_:=hd r_;replace D7:=hd D7;replace hu4:=hd hu4;replace D8:=hd D8;replace U_:=hd U_;replace hnve:=hd hnve;replace O6:=hd O6;clear x1 U5;by_cases e:(aY z.v items).getD p.toNat 0=z.v.getD p.toNat 0
  ·have ce:=beq_iff_eq.2 e;replace e:=hd e;refine zG (zDd tyR (ixI C4.1 hpa) (ixI C4.1 C4.2)) λK5 V0=>?_;apply V0.out;refine R1.lq (λA5=>dR A5 z.C1 z.C2 z.C3 b (b+1) (b+2) (b+3) (wI w) (nj A5 i RB (ky A5.tm 102 103 104 (u102) (u103) (u104) (oz A5 PB (qh A5 (u1) rl.2.length j (eO A5 140 (.b false) 228 dl)))))) zL ?_;clear t4 t5 t6 t7 t8 t9 t10 t11 t16 t17 t102 t103 t104 t19 t123 t124 t125 z0 A0 A V0 K5;rintro A ⟨t4,t5,t6,t7,t8,t9,t10,t11,t16,t17,t102,t103,t104,t19,t123,t124,t125,t140,z0,A0⟩;refine qX (qA tyR t140) ?_;refine R1.bT ?_;repeat refine R1.aJ ?_
   refine R1.tV (λB H=>H=H4/\dR B z.C1 z.C2 z.C3 b (b+1) (b+2) (b+3) (wI w) (nj B i RB (ky B.tm 102 103 104 (u102) (u103) (u104) (oz B PB (qh B (u1) rl.2.length j (eO B 147 (.b (decide (l=0/\w=some i))) 228 dl)))))) (λK6 m1 m2 m3=>?_) ?_
   ·by_cases I6:l=0
    ·have cl:(((l+1:Nat):Int)==1)=true:=by rw[I6];rfl
     by_cases hwi:w=some i
     ·have cw:((i:Int)==wI w)=true:=by rw[hwi];exact dk _
      have F2:decide (l=0/\w=some i)=true:=bp ⟨I6,hwi⟩;rw[F2]at m1;clear F2;replace hwi:=hd hwi;replace I6:=hd I6;refine zG tyR λK5 V0=>?_;apply V0.out;exact m1.out _ _ ⟨rfl,zL⟩
     have cw:((i:Int)==wI w)=false:=aF λh=>hwi (by
      cases w with
      |none=>have:(i:Int)=-1:=h;omega
      |some q=>have:(i:Int)=(q:Int):=h;rw[show q=i by omega])
     have F2:decide (l=0/\w=some i)=false:=bJ λh=>hwi h.2;rw[F2]at m1;clear F2;replace hwi:=hd hwi;replace I6:=hd I6;refine zG tyR λK5 V0=>?_;apply V0.out;exact m1.out _ _ ⟨rfl,zL⟩
    have cl:(((l+1:Nat):Int)==1)=false:=aF aa;have F2:decide (l=0/\w=some i)=false:=bJ λh=>I6 h.1;rw[F2]at m1;clear F2;replace I6:=hd I6;refine zG tyR λK5 V0=>?_;apply V0.out;exact m1.out _ _ ⟨rfl,zL⟩
   clear t4 t5 t6 t7 t8 t9 t10 t11 t16 t17 t102 t103 t104 t19 t123 t124 t125 t140 z0 A0 A;rintro A H9 ⟨rfl,t4,t5,t6,t7,t8,t9,t10,t11,t16,t17,t102,t103,t104,t19,t123,t124,t125,t147,z0,A0⟩;by_cases hT:l=0/\w=some i
   ·rw[bp hT]at t147;obtain⟨I6,hwi⟩:=hT;subst hwi;have hcc1:items.length+given.length+1=z.c:=by have:=hB.out.cc;omega
    obtain⟨to,hto⟩:∃t,t=z.v.getD p.toNat 0+z.v.getD rl.1.toNat 0-bN (aY z.v items) 0 rl.2:=⟨_,rfl⟩;have G7:=(E0.lad C4.1 C4.2).2;have G5:=(E0.lad G6.1 G6.2).2;have c8:=cB (z.v.getD p.toNat 0+z.v.getD rl.1.toNat 0);have O3:IntKind.i64.wrap (z.v.getD p.toNat 0+z.v.getD rl.1.toNat 0-bN (aY z.v items) 0 rl.2)=to:=by rw[hto];exact gE aa aa
    rw[<-hnve.out]at x1';obtain⟨idv',gv',offv',cellsv',hvv',_,hgrv',e3',e4'⟩:=nS X2.out.st.dat.now.vi G6.1 G6.2;rw[U_.out]at hvv';cases hvv'
    have hcv:=V4.symm.trans hgrv';cases hcv
    have hpr:=E0.rp.pr rl hrm;clear hgrv';replace hto:=hd hto;replace I6:=hd I6;replace hcc1:=hd hcc1;replace hpr:=hd hpr;refine qX (qA tyR t147) ?_;refine zO (zDe tyR (ixI C4.1 C4.2) (ixI G6.1 G6.2) AL) λK5 V0=>?_;refine WE.po (xL _ u1 nv rl.1 rl.2 (aY z.v items) hu4.out D8.out.nw (by rw[dH];exact hpr.out) aa) λw' H5 g5 v_=>?_;subst v_;refine zQ tyR ?_;apply V0.out;have S8:=X2.out.gr g5;have O9:Fr (SrC z.S r0) H1 H5:=G8.out.gr g5;have P9:DfM X4 H1 H5 dl:=r_.out.fr2 g5 λ_ _ h=>h;have o6:SlI H5 u1 rl.2:=SlI.gr hu4.out g5;have hP5:=(g5.get _ n4 aE).trans hPB;have hR5:=(g5.get _ hRn4 aE).trans hR4;have n5:=ax n4 g5.nx;have hRn5:=ax hRn4 g5.nx;refine R1.lq (λA5=>dR A5 z.C1 z.C2 z.C3 b (b+1) (b+2) (b+3) (wI (some i)) (nj A5 i RB (ky A5.tm 102 103 104 (u102) (u103) (u104) (oz A5 PB (qh A5 (u1) rl.2.length j (eO A5 20 (.i .i64 (to:Int)) 228 dl)))))) zL ?_;clear t4 t5 t6 t7 t8 t9 t10 t11 t16 t17 t102 t103 t104 t19 t123 t124 t125 t147 z0 A0 A V0 K5 V4 e3 e4 e3' e4' C_ S7 G1 c1 x0 x1' x2 x3 m0 m1 m2 m3 hgrn hidn e5 e6 hPB hR4 n4 hRn4 T4;rintro A ⟨t4,t5,t6,t7,t8,t9,t10,t11,t16,t17,t102,t103,t104,t19,t123,t124,t125,t20,z0,A0⟩;replace D8:=D8.out;obtain⟨S7,C_⟩:=S8.st.own;obtain⟨idv',gv',offv',cellsv',hvv',T4,V4,e3,e4⟩:=nS S8.st.dat.now.vi C4.1 C4.2;obtain⟨idl,gl,offl,cellsl,ul,J8,W7,B7,Y4,f3,f4⟩:=vU S8.st.dat.now.la C4.1 htl;rw[hvv',J8]at C_;have c1:z.C1<H5.nx:=by have:=S8.st.clo.n;omega
    have G1:=S8.st.clo.g1;obtain⟨x0,x1,x2,x3,⟨m0,m1⟩,m2,m3⟩:=hB.out.box S8.nx;replace S8:=hd S8;replace O9:=hd O9;replace P9:=hd P9;replace o6:=hd o6;replace hvv':=hd hvv';replace J8:=hd J8;replace Y4:=hd Y4;replace D8:=hd D8;have m_:=aa9 Z1.out E0.ck E0.vr p to;repeat refine R1.aJ ?_
    refine R1.tV (λB H=>Gr H5 H/\dR B z.C1 z.C2 z.C3 b (b+1) (b+2) (b+3) (wI (some i)) (nj B i RB (ky B.tm 102 103 104 (u102) (u103) (u104) (oz B PB (qh B (u1) rl.2.length j (nu B 20 192 (.i .i64 (to:Int)) (.b (decide (kF z.ld z.v p to≠0))) 228 dl)))))) (λK6 m1 m2 m3=>?_) ?_
    ·by_cases b1:(1:Int)<=to
     ·by_cases b2:to<=1099511627776
      ·replace m_:=hd m_;refine zO (zDe tyR (ixI C4.1 C4.2) (ixI C4.1 htl) FZ) λK5 V0=>?_;refine WE.po (xz E0 H5 p to ul C4.1 C4.2 Y4.out) λw' H6 g6 L'=>?_;subst L';by_cases M4:kF z.ld z.v p to=0
       ·have ck:=beq_iff_eq.2 M4;have F2:decide (kF z.ld z.v p to≠0)=false:=bJ λh=>h M4;rw[F2]at m1;clear F2;replace M4:=hd M4;refine zQ tyR ?_;apply V0.out;exact m1.out _ _ ⟨g6,zL⟩
       have ck:(kF z.ld z.v p to==0)=false:=aF M4;have F2:decide (kF z.ld z.v p to≠0)=true:=bp M4;rw[F2]at m1;clear F2;replace M4:=hd M4;refine zQ tyR ?_;apply V0.out;exact m1.out _ _ ⟨g6,zL⟩
      have F2:decide (kF z.ld z.v p to≠0)=false:=bJ λh=>b2 (m_ h).1.2;rw[F2]at m1;clear F2;replace m_:=hd m_;refine zO tyR λK5 V0=>?_;apply V0.out;exact m1.out _ _ ⟨Fr.refl _,zL⟩
     have F2:decide (kF z.ld z.v p to≠0)=false:=bJ λh=>b1 (m_ h).1.1;rw[F2]at m1;clear F2;replace m_:=hd m_;refine zO tyR λK5 V0=>?_;apply V0.out;exact m1.out _ _ ⟨Fr.refl _,zL⟩
    clear t4 t5 t6 t7 t8 t9 t10 t11 t16 t17 t102 t103 t104 t19 t123 t124 t125 t20 z0 A0 A S7 C_ V4 T4 e3 e4 B7 W7 f3 f4 G1 c1 x0 x1 x2 x3 m0 m1 m2 m3 m_;rintro A H6 ⟨g6,t4,t5,t6,t7,t8,t9,t10,t11,t16,t17,t102,t103,t104,t19,t123,t124,t125,t20,t192,z0,A0⟩;have Z9:=S8.out.gr g6;have hF6:Fr (SrC z.S r0) H1 H6:=O9.out.gr g6;have hD6:DfM X4 H1 H6 dl:=P9.out.fr2 g6 λ_ _ h=>h;have I7:SlI H6 u1 rl.2:=SlI.gr o6.out g6;have hP6:=(g6.get _ n5 aE).trans hP5;have hR6:=(g6.get _ hRn5 aE).trans hR5;have n6:=ax n5 g6.nx;have hRn6:=ax hRn5 g6.nx;clear hP5 hR5 n5 hRn5 Y4;by_cases M4:kF z.ld z.v p to=0
    ·have F2:decide (kF z.ld z.v p to≠0)=false:=bJ λh=>h M4;rw[F2]at t192;clear F2;have hL6:LpZ z items given f0 found (xX z items given (some i) i rl (rl.2.drop (j+1))):=Lp.no E0.rp hL.out hcc1.out hrm D0.out (by rw[<-hto.out];exact M4);replace M4:=hd M4;replace hL6:=hd hL6;replace Z9:=hd Z9;replace hF6:=hd hF6;replace hD6:=hd hD6;replace I7:=hd I7;refine qX (qA tyR t192) ?_;refine zW tyR ?_;apply q2.out;refine zW tyR ?_;exact⟨rl.2.length-(j+1),aa,j+1,X4,F,r,found,dl,rfl,B0,hF6,D7,Z9,hD6,hL6,I7,hR6,zL⟩
    have F2:decide (kF z.ld z.v p to≠0)=true:=bp M4;rw[F2]at t192;clear F2;have hk6:=hB.out.kpn Z9.nx Z9.rr;obtain⟨x0,x1,x2,x3,⟨m0,m1⟩,m2,m3⟩:=hB.out.box Z9.nx;have c3:z.C3<H6.nx:=by have:=Z9.st.clo.n;omega
    have G3:=Z9.st.clo.g3;replace M4:=hd M4;replace hk6:=hd hk6;replace Z9:=hd Z9;replace hF6:=hd hF6;replace hD6:=hd hD6;replace I7:=hd I7;refine qX (qA tyR t192) ?_;refine zG (qA tyR Tr) λK5 V0=>?_;refine WE.con (Ow E0 V8 W4 X4 H6 iv nv mv F items given found r p to rl Z9.out.st hk6.out hB.out.I hB.out.nd hB.out.gl hB.out.cc hrm D0.out e.out M4.out) λw' H7 f7⟨hw,hq⟩=>?_;subst hw;obtain⟨F7,r7,found7,hW7,W_,hP7⟩:=Z9.out.call2 f7 hq;have hL7:=Lp.yes E0.rp hL.out hcc1.out hrm D0.out hto.out hP7;have hF7:=Z9.out.frc hF6.out f7;have hu7:=SlI.step I7.out Z9.out f7 huk.out;have hR7:H7.get RB=some (.arr [.i .i64 rl.1,u1] 82 0 0):=(f7.get _ hRn6 (Z9.out.kept (D7.out RB hRX.out) D_.out)).trans hR6;have hD7:DfM X4 H1 H7 dl:=hD6.out.fr2 f7 λd hd=>Z9.out.kept (hD6.out.2 d hd).1 (by have:=(hD6.out.2 d hd).2.1;omega);clear hP7 hq W_;replace hW7:=hd hW7;replace hL7:=hd hL7;replace hF7:=hd hF7;replace hu7:=hd hu7;replace hD7:=hd hD7;replace f7:=hd f7;refine zS tyR ?_;apply V0.out;refine zW tyR ?_;apply q2.out;refine zW tyR ?_;exact⟨rl.2.length-(j+1),aa,j+1,X4,F7,r7,found7,dl,rfl,B0,hF7,D7,hW7,hD7,hL7,hu7,hR7,zL⟩
   rw[bJ hT]at t147;replace hT:=hd hT;refine qX (qA tyR t147) ?_;refine R1.bT ?_;refine acy rfl E0 V8 hB.out X2.out r_.out W4 hrm D0.out e.out hL.out hPB hXP.out hPS.out ⟨t4,t5,t6,t7,t8,t9,t10,t11,t16,t17,t102,t103,t104,t123,t124,t125,t19,z0,A0⟩ λA2 H5 X5 F5 r5 found5 dl5 f5 f_ S8 P9 z' k8=>?_;clear t147 t4 t5 t6 t7 t8 t9 t10 t11 t16 t17 t102 t103 t104 t19 t123 t124 t125 z0 A0 A;obtain⟨t4,t5,t6,t7,t8,t9,t10,t11,t16,t17,t102,t103,t104,t123,t124,t125,z0,A0⟩:=k8;have O9:=X2.out.frc G8.out f5;have o6:=SlI.step hu4.out X2.out f5 huk.out;have hR5:H5.get RB=some (.arr [.i .i64 rl.1,u1] 82 0 0):=(f5.get _ hRn4 (X2.out.kept (D7.out RB hRX.out) D_.out)).trans hR4;have hX5:∀k,X0 k->X5 k:=λk hk=>f_ k (D7.out k hk);replace O9:=hd O9;replace o6:=hd o6;replace hX5:=hd hX5;replace f_:=hd f_;replace S8:=hd S8;replace P9:=hd P9;replace z':=hd z';replace f5:=hd f5;apply q1.out;refine zW tyR ?_;exact⟨rl.2.length-(j+1),aa,j+1,X5,F5,r5,found5,dl5,rfl,B0,O9,hX5,S8,P9,z',o6,hR5,zL⟩
  have ce:((aY z.v items).getD p.toNat 0==z.v.getD p.toNat 0)=false:=aF e;have z':LpZ z items given f0 found (xX z items given w i rl (rl.2.drop (j+1))):=Lp.had hL.out e;replace z':=hd z';replace e:=hd e;refine zG (zDd tyR (ixI C4.1 hpa) (ixI C4.1 C4.2)) λK5 V0=>?_;apply V0.out;refine R1.lq (λA5=>dR A5 z.C1 z.C2 z.C3 b (b+1) (b+2) (b+3) (wI w) (nj A5 i RB (ky A5.tm 102 103 104 (u102) (u103) (u104) (qh A5 (u1) rl.2.length j (eO A5 140 (.b true) 228 dl))))) zL ?_;clear t4 t5 t6 t7 t8 t9 t10 t11 t16 t17 t102 t103 t104 t19 t123 t124 t125 z0 A0 A V0 K5;rintro A ⟨t4,t5,t6,t7,t8,t9,t10,t11,t16,t17,t102,t103,t104,t123,t124,t125,t140,z0,A0⟩;refine zW tyR ?_;apply q2.out;refine zW tyR ?_;exact⟨rl.2.length-(j+1),aa,j+1,X4,F,r,found,dl,rfl,B0,G8,D7,X2,r_,z',hu4,hR4,zL⟩
 have hje:j=rl.2.length:=aa;have hLe:LpZ z items given f0 found (tP z items given w (i+1)):=Lp.close (by have:=hL.out;rw[hje,ct]at this;exact this)
 replace hLe:=hd hLe;clear hje;refine zW tyR ?_;apply k2.out;exact hK.out _ _ X F r found dl hF.out hX0.out hW.out hD.out hLe.out zL
section
variable{S N:Nat}{H H':Hp}{pc pr la vv:AC}{lc:List Cl}{lr:List Rl}{ld:List Lad}{v:List Int}
def SrD.parts(h:SrD S N H pc pr la vv lc lr ld v){i:Nat}{x:Rl}(hi:lr[i]?=some x){id g off:Nat}{cells:List AC}{u:AC}(hpr:pr=.o (.sl id g off lr.length 2))(hr:rowOf (H.get id) g=some cells)(hf:(cells.drop (off+i*2)).take 2=[.i .i64 x.1,u]){k:Nat}(hk:SrX S N k):k∉(AV.one u).ids:=by
 have hx:(H.mod k (.oth (.dfr true))).get k=some (.oth (.dfr true)):=aq rfl;have hF:=h.2 (H.mod k (.oth (.dfr true))) (ai _) λi hi hn=>aB λe=>hn (by rw[e];exact hk);have hlen:0<lr.length:=Nat.lt_of_le_of_lt (Nat.zero_le _) (List.getElem?_eq_some_iff.1 hi).1;obtain⟨id',g',off',cells',e1,_,T3,J0⟩:=hF.rl.open hlen;obtain⟨u',i_,y1,_⟩:=J0 i x hi;rw[hpr]at e1;injection e1 with e1
 injection e1 with e1 e2 e3
 subst e1 e2 e3;by_cases e:id=k
 ·rw[e,hx,ti]at T3;cases T3
 rw[aB e,hr]at T3;cases T3
 rw[hf]at y1;injection y1 with _ y1
 injection y1 with y1 _
 subst y1;exact SlC.no (H:=H) i_ hx
end
def abm{c:Code}(hc:atF Tryz.f102 [1,0,1,1,1,1,1,1,1,1]=some c){z:Sg}(E0:mu z.ld z.lr z.v)(V8:z.c<=3){X0:Nat->Prop}{H1:Hp}{b l:Nat}{iv nv mv F0:AC}{items:List Fx}{given:List Nat}{r0 r1:Option Nat}{f0 found0:List (List Fx)}{H:Hp}{A:ag}{K:au->ag->Hp->Prop}{dl0:List Nat}
  (hB:Bs z H1 b iv nv mv (l+1) items given r0) (hF0:Fr (SrC z.S r0) H1 H) (hW0:Wk z X0 H1 r0 H F0 found0 r1) (hD0:DfM X0 H1 H dl0) (W4:xY z l) {w:Option Nat}
  (hL0:LpZ z items given f0 found0 (tP z items given w 0))
  (hs:dR A z.C1 z.C2 z.C3 b (b+1) (b+2) (b+3) (wI w) (oA A 102 103 104 (z.pr) (.i .i64 (z.lr.length:Int)) (.i .i64 (0:Int)) 228 dl0))
  (hK:∀(A2:ag)(H2:Hp)(X':Nat->Prop)(F':AC)(r':Option Nat)(found':List (List Fx))(dl':List Nat),Fr (SrC z.S r0) H1 H2->(∀k,X0 k->X' k)->Wk z X' H1 r0 H2 F' found' r'->DfM X' H1 H2 dl'->qD z.v z.lr (kF z.ld z.v) z.c z.limit items given f0 found'->A2.dfr=dl'->K .normal A2 H2):R1 E2 none c A H K:=by
 cases hc
 obtain⟨t4,t5,t6,t7,t8,t9,t10,t11,t102,t103,t104,z0,A0⟩:=hs;have hr64:=E0.r64;have B_:z.S<H1.nx:=by have h1:=hB.ne;have h2:=hB.n;exact fL λhh=>h1 z.S aa (.inl rfl)
 replace hB:=hd hB;replace hK:=hd hK;refine R1.mD λK1 k1 k2 k3 k4=>?_;refine R1.loop (λm A H2=>∃(i:Nat)(X:Nat->Prop)(F:AC)(r:Option Nat)(found:List (List Fx))(dl:List Nat),m=z.lr.length-i/\i<=z.lr.length/\Hd (Fr (SrC z.S r0) H1 H2)/\Hd (∀k,X0 k->X k)/\Hd (Wk z X H1 r0 H2 F found r)/\Hd (DfM X H1 H2 dl)/\Hd (LpZ z items given f0 found (tP z items given w i))/\dR A z.C1 z.C2 z.C3 b (b+1) (b+2) (b+3) (wI w) (oA A 102 103 104 (z.pr) (.i .i64 (z.lr.length:Int)) (.i .i64 (i:Int)) 228 dl)) ?_ z.lr.length
  ⟨0,X0,F0,r1,found0,dl0,rfl,Nat.zero_le _,hF0,λ_ h=>h,hW0,hD0,hL0,t4,t5,t6,t7,t8,t9,t10,t11,t102,t103,t104,z0,A0⟩
 clear t4 t5 t6 t7 t8 t9 t10 t11 t102 t103 t104 z0 A0 A hF0 hW0 hD0 hL0 H;rintro m A H2 ⟨i,X,F,r,found,dl,rfl,U3,hF,hX0,hW,hD,hL,t4,t5,t6,t7,t8,t9,t10,t11,t102,t103,t104,z0,A0⟩;refine zW tyR ?_;refine zI tyR (λM9=>?_) (λM9=>?_)
 ·have B0:i<z.lr.length:=aa;have ex:=aA B0;have M0:=List.drop_eq_getElem_cons B0;have Y1:=cK B0;have D0:=bW B0;generalize z.lr[i]=x at ex M0 Y1 D0;have X1:=bB i;have hDn:=hW.out.st.dat;obtain⟨idr,g,off,cells,Y8,hid,W0,J0⟩:=hDn.now.rl.open aa;obtain⟨u1,O0⟩:=J0 i x ex;obtain⟨J2,y1,y2,_,_,_,_⟩:=O0;have huk:∀k,SrX z.S z.N k->k∉(AV.one u1).ids:=λk hk=>hDn.parts ex Y8 W0 y1 hk;rw[Y8]at t102;clear J0 Y1 M0;replace Y8:=hd Y8;replace ex:=hd ex;replace D0:=hd D0;replace huk:=hd huk;replace hDn:=hd hDn;replace J2:=hd J2;refine zW tyR ?_;refine R1.dL λK2 q1 q2 q3 q4=>?_;refine zG (qA tyR (ixC B0)) λK5 V0=>?_;apply V0.out;refine R1.gen (λA4 H4=>Gr H2 H4/\H2.nx<H4.nx/\H4.get H2.nx=some (.arr [.i .i64 x.1,u1] 82 0 0)/\dR A4 z.C1 z.C2 z.C3 b (b+1) (b+2) (b+3) (wI w) (ky A4.tm 102 103 104 (.o (.sl idr g off z.lr.length 2)) (.i .i64 (z.lr.length:Int)) (.i .i64 (i:Int)) (nj A4 i H2.nx (A4.nt=228/\A4.dfr=dl))))
   ⟨((Fr.refl _).new _).mod _ (.inl (ai _)),ba _,aq rfl,zL⟩ ?_
  clear t4 t5 t6 t7 t8 t9 t10 t11 t102 t103 t104 z0 A0 A hid W0 y1 y2 V0 K5;rintro A H4 ⟨g4,n4,hRB,t4,t5,t6,t7,t8,t9,t10,t11,t102,t103,t104,t16,t17,z0,A0⟩;rw[<-Y8.out]at t102;obtain⟨RB,hRe⟩:=dI H2.nx;rw[<-hRe]at n4 hRB t17;have X2:=hW.out.grow g4;have G8:Fr (SrC z.S r0) H1 H4:=hF.out.gr g4;have hn12:H1.nx<=H2.nx:=hW.out.nx.1;obtain⟨X4,hX4⟩:∃X4,X4=Xp X H2.nx H4.nx:=⟨_,rfl⟩;rw[<-hX4]at X2;have hXX:∀k,X k->X4 k:=λk hk=>by rw[hX4];exact .inl hk
  have hXR:X4 RB:=by rw[hX4];exact .inr ⟨aa,n4⟩
  have D_:RB≠z.S:=aa;have r_:DfM X4 H1 H4 dl:=(hD.out.fr2 g4 λ_ _ h=>h).wide hXX;have D7:∀k,X0 k->X4 k:=λk hk=>hXX k (hX0.out k hk);have hu4:SlI H4 u1 x.2:=SlI.gr J2.out g4;obtain⟨x0,x1,x2,x3,⟨m0,m1⟩,m2,m3⟩:=hB.out.box X2.nx;have D8:=hB.out.now X2.nx;have G4:=D8.gv.look i;have hmv:=D8.gv.lt;replace X2:=hd X2;replace G8:=hd G8;replace hX4:=hd hX4;replace hXX:=hd hXX;replace hXR:=hd hXR;replace D_:=hd D_;replace hRe:=hd hRe;replace r_:=hd r_;replace D7:=hd D7;replace D8:=hd D8;have l1:=hu4.len;have l2:=hu4.lt;replace hu4:=hd hu4;by_cases V3:abp given w i
  ·repeat refine R1.aJ ?_
   refine R1.tV (λB H=>H=H4/\dR B z.C1 z.C2 z.C3 b (b+1) (b+2) (b+3) (wI w) (ky B.tm 102 103 104 (z.pr) (.i .i64 (z.lr.length:Int)) (.i .i64 (i:Int)) (nj B i RB (eO B 121 (.b false) 228 dl)))) (λK6 m1 m2 m3=>?_) ?_
   ·cases w with
    |some n=>have U2:i=n:=V3;subst U2;have cw:((i:Int)==wI (some i))=true:=dk _;replace V3:=hd V3;refine zG (qA tyR jO) λK5 V0=>?_;apply V0.out;exact m1.out _ _ ⟨rfl,zL⟩
    |none=>
     have U2:i∈given:=V3;have cw:((i:Int)==wI none)=false:=aF (by show(i:Int)≠-1;omega);have cw2:¬(0:Int)<=wI none:=by show¬(0:Int)<=-1;decide
     rw[bp U2]at G4;replace V3:=hd V3;replace U2:=hd U2;refine zG (qA tyR jO) λK5 V0=>?_;apply V0.out;exact m1.out _ _ ⟨rfl,zL⟩
   clear t4 t5 t6 t7 t8 t9 t10 t11 t102 t103 t104 t16 t17 z0 A0 A;rintro A H9 ⟨rfl,t4,t5,t6,t7,t8,t9,t10,t11,t102,t103,t104,t16,t17,t121,z0,A0⟩;have hLo:LpZ z items given f0 found (xX z items given w i x x.2):=Lp.open hL.out ex.out;replace V3:=hd V3;replace hLo:=hd hLo;refine qX (qA tyR t121) ?_;refine R1.bT ?_;repeat refine R1.aJ ?_
   refine zG tyR λK5 V0=>?_;apply V0.out;refine abi rfl E0 V8 hB.out G8.out X2.out r_.out W4 ex.out hLo.out hu4.out huk.out hRB hXR.out D_.out (u102:=z.pr) (u103:=.i .i64 (z.lr.length:Int)) (u104:=.i .i64 (i:Int)) zL λA2 H5 X5 F5 r5 found5 dl5 O9 f_ S8 P9 z' k8=>?_;clear t4 t5 t6 t7 t8 t9 t10 t11 t102 t103 t104 t16 t17 t121 z0 A0 A;obtain⟨t4,t5,t6,t7,t8,t9,t10,t11,t102,t103,t104,z0,A0⟩:=k8;have hX5:∀k,X0 k->X5 k:=λk hk=>f_ k (D7.out k hk);replace hX5:=hd hX5;replace f_:=hd f_;replace O9:=hd O9;replace S8:=hd S8;replace P9:=hd P9;replace z':=hd z';apply q1.out;refine zW tyR ?_;exact⟨z.lr.length-(i+1),aa,i+1,X5,F5,r5,found5,dl5,rfl,B0,O9,hX5,S8,P9,z',zL⟩
  have z':LpZ z items given f0 found (tP z items given w (i+1)):=Lp.skip hL.out V3;replace z':=hd z';cases w with
  |some n=>
   have U2:i≠n:=λh=>V3 h;have cw:((i:Int)==wI (some n))=false:=aF (by show(i:Int)≠(n:Int);omega);have cw2:(0:Int)<=wI (some n):=by show(0:Int)<=(n:Int);omega
   replace V3:=hd V3;replace U2:=hd U2;refine zG (qA tyR jO) λK5 V0=>?_;apply V0.out;refine zW tyR ?_;apply q2.out;refine zW tyR ?_;exact⟨z.lr.length-(i+1),aa,i+1,X4,F,r,found,dl,rfl,B0,G8,D7,X2,r_,z',zL⟩
  |none=>
   have U2:i∉given:=λh=>V3 h;have cw:((i:Int)==wI none)=false:=aF (by show(i:Int)≠-1;omega);have cw2:¬(0:Int)<=wI none:=by show¬(0:Int)<=-1;decide
   rw[bJ U2]at G4;replace V3:=hd V3;replace U2:=hd U2;refine zG (qA tyR jO) λK5 V0=>?_;apply V0.out;refine zW tyR ?_;apply q2.out;refine zW tyR ?_;exact⟨z.lr.length-(i+1),aa,i+1,X4,F,r,found,dl,rfl,B0,G8,D7,X2,r_,z',zL⟩
 have hLe:=Lp.over hL.out (show z.lr.length<=i by omega);replace hLe:=hd hLe;refine zW tyR ?_;apply k2.out;exact hK.out _ _ X F r found dl hF.out hX0.out hW.out hD.out hLe.out A0
def ab2(z:Sg)(items:List Fx)(given:List Nat)(w:Option Nat)(I T:List Fx):Prop:=match w with|none=>tP z items given none 0 I T|some n=>(∃rest,SH z I T items rest (n::given))\/tP z items given (some n) 0 I T
def El{z:Sg}(E0:mu z.ld z.lr z.v)(V8:z.c<=3)(Y5:z.limit<=100)(Q6:LD z.v z.lr (kF z.ld z.v) z.c){left:Nat}(hih:∀l,left=l+1->xY z l):xY z left:=by
 intro X H iv nv mv F items given found r hs hk hI Q5 S' S2;have U3:items.length<=3:=aa;replace hI:=hd hI;replace Q5:=hd Q5;replace S':=hd S';replace S2:=hd S2;replace Q6:=hd Q6;replace hih:=hd hih;refine Con.of rfl λlg=>?_;have hs:=hs.lg lg;have hk:Kp z (SrC z.S r) ⟨H.t,H.nx,lg⟩ iv nv mv items given:=hk;have e0:H.nx=(⟨H.t,H.nx,lg⟩:Hp).nx:=rfl;rw[e0];clear e0;generalize(⟨H.t,H.nx,lg⟩:Hp)=H at hs hk |-
 refine C1.bdy7 228 [] Tryz.func102 λtm h0 h1 h2 h3 h4 h5 h6=>?_;have X9:=hk.now;replace X9:=hd X9;refine zG tyR λK1 T8=>?_;apply T8.out;refine R1.gen (λA1 H1=>Gr H H1/\H1.nx=H.nx+4/\H1.get H.nx=some (.arr [iv] 30 0 0)/\H1.get (H.nx+1)=some (.arr [nv] 27 0 0)/\H1.get (H.nx+2)=some (.arr [mv] 194 0 0)/\H1.get (H.nx+3)=some (.arr [.i .i64 (left:Int)] 3 0 0)/\jM A1 z.C1 (slot A1.tm 5=.one (.o (.ptr z.C2 0 0 1))/\CH A1 z.C3 H.nx (H.nx+1) (H.nx+2) (H.nx+3) (A1.nt=228/\A1.dfr=[])))
  ⟨(((Fr.refl _).new _).new _).new _ |>.new _,rfl,by rw[bw (by show H.nx<H.nx+1+1+1;omega),bw (by show H.nx<H.nx+1+1;omega),bw (by show H.nx<H.nx+1;omega)];exact aC rfl,
    by rw[bw (by show H.nx+1<H.nx+1+1+1;omega),bw (by show H.nx+1<H.nx+1+1;omega)];exact aC rfl,by rw[bw (by show H.nx+2<H.nx+1+1+1;omega)];exact aC rfl,aC rfl,zL⟩ ?_
 clear h0 h1 h2 h3 h4 h5 h6 tm T8 K1;rintro A H1 ⟨g1,n1,r0',r1',r2',r3',t4,t5,t6,t7,t8,t9,t10,z0,A0⟩;obtain⟨b,hb⟩:=dI H.nx;rw[<-hb]at n1 r0' r1' r2' r3' t7 t8 t9 t10;have hB:Bs z H1 b iv nv mv left items given r:=⟨hk.gr g1,r0',r1',r2',r3',aa,λj hj hh=>by
  rcases hh with hh|hh
  ·have:=hs.own.1;omega
  have:=hs.rlt j hh;omega,by have:=hs.clo.n.2;omega,hI.out,Q5.out,S'.out,S2.out⟩
 have j7:Wk z X H1 r H1 F found r:=⟨Nx.refl _,hs.gr g1,λk hk=>.inl hk⟩;have fin:Hd (∀(e:au)(A:ag)(H3:Hp)(dl:List Nat)(X':Nat->Prop)(F':AC)(r':Option Nat)(found':List (List Fx)),(e=.normal\/e=.ret)->A.dfr=dl->Fr (SrC z.S r) H1 H3->(∀k,X k->X' k)->Wk z X' H1 r H3 F' found' r'->DfM X' H1 H3 dl->qD z.v z.lr (kF z.ld z.v) z.c z.limit items given found found' ->
   ∃w H4,aK E2 [] (e,A,H3)=.ok [(w,H4)]/\Fr (SrC z.S r) H H4/\∀lg':List Nat,w=.tup []/\FrQ z X H.nx r (qD z.v z.lr (kF z.ld z.v) z.c z.limit items given found) ⟨H4.t,H4.nx,lg'⟩):=λe A H3 dl X' F' r' found' he h1 h2 h3 h4 h5 h6=>by
  obtain⟨H4,c1,c2,c3⟩:=h5.close;have hNb:=hB.nb;have hsn:z.S<H.nx:=hs.own.1;have s1:SrS z X' H4 F' found' r':=h4.st.fr c2 λk hk=>⟨(h5.2 k hk).1,by have:=(h5.2 k hk).2.1;omega,by have:=(h5.2 k hk).2.1;omega⟩;have s2:SrS z X H4 F' found' r':=s1.wide hs.xs (λk hk=>by have:=hs.xn k hk;have:=h2.nx;have:=c2.nx;omega) λk hk=>.inl (h3 k hk);refine⟨_,H4,Gg he (by rw[h1];exact c1),((Fr.none g1).then h2 λk hk=>.inr hk).then c2 λk hk=>.inl (by have:=(h5.2 k hk).2.1;omega),λlg'=>⟨rfl,F',r',found',s2.lg lg',λk hk=>(h4.rr k hk).imp id λh=>aa,h6⟩⟩
 have hle:=hs.le;have D9:=hs.ok;have flen:=j7.st.fnd.len;have flt:=j7.st.fnd.lt;obtain⟨S7,U5⟩:=j7.st.own;have c1:z.C1<H1.nx:=by have:=j7.st.clo.n;omega
 have G1:=j7.st.clo.g1;replace hB:=hd hB;replace j7:=hd j7;replace hb:=hd hb;replace D9:=hd D9;replace hs:=hd hs;replace hk:=hd hk;replace g1:=hd g1;clear r0' r1' r2' r3';replace n1:=hd n1;refine R1.scope ?_;repeat refine R1.aJ ?_
 refine R1.tV (λB H=>H=H1/\jM B z.C1 (slot B.tm 5=.one (.o (.ptr z.C2 0 0 1))/\CH B z.C3 b (b+1) (b+2) (b+3) (eO B 38 (.b (decide (z.limit≠0/\z.limit<found.length))) 228 []))) (λK6 m1 m2 m3=>?_) ?_
 ·by_cases l0:z.limit=0
  ·have c0:¬(0:Int)<(z.limit:Int):=aa;have F2:decide (z.limit≠0/\z.limit<found.length)=false:=bJ λh=>h.1 l0;rw[F2]at m1;clear F2;replace l0:=hd l0;refine zG tyR λK5 V0=>?_;apply V0.out;exact m1.out _ _ ⟨rfl,zL⟩
  have c0:(0:Int)<(z.limit:Int):=aa;by_cases l1:z.limit<found.length
  ·have c2:(z.limit:Int)<(found.length:Int):=aa;have F2:decide (z.limit≠0/\z.limit<found.length)=true:=bp ⟨l0,l1⟩;rw[F2]at m1;clear F2;replace l0:=hd l0;replace l1:=hd l1;refine zG tyR λK5 V0=>?_;apply V0.out;exact m1.out _ _ ⟨rfl,zL⟩
  have c2:¬(z.limit:Int)<(found.length:Int):=aa;have F2:decide (z.limit≠0/\z.limit<found.length)=false:=bJ λh=>l1 h.2;rw[F2]at m1;clear F2;replace l0:=hd l0;replace l1:=hd l1;refine zG tyR λK5 V0=>?_;apply V0.out;exact m1.out _ _ ⟨rfl,zL⟩
 clear t4 t5 t6 t7 t8 t9 t10 z0 A0 A;rintro A H9 ⟨rfl,t4,t5,t6,t7,t8,t9,t10,t38,z0,A0⟩;by_cases N6:z.limit≠0/\z.limit<found.length
 ·rw[bp N6]at t38;have hL:=Lp.full (items:=items) (given:=given) (due:=λ_ _=>False) D9.out hle N6.1 N6.2;replace N6:=hd N6;replace hL:=hd hL;refine qX (qA tyR t38) ?_;refine zW tyR ?_;exact fin.out _ _ _ [] X F r found (.inr rfl) qe (Fr.refl _) (λ_ h=>h) j7.out DfM.nil hL.out
 rw[bJ N6]at t38;have P6:z.limit=0\/found.length<=z.limit:=fL λh=>N6 ⟨λe=>h (.inl e),aa⟩;replace N6:=hd N6;replace P6:=hd P6;have p1:=j7.out.st.dat.now.rl.len;have p3:=j7.out.st.dat.now.rl.lt;refine qX (qA tyR t38) ?_;refine R1.bT ?_;refine zW tyR ?_;refine R1.Hk ?_;refine zW tyR ?_;refine R1.seq (srch (rn:=none) rfl E0 hB.out j7.out zL λA2 H2 w g2 hw L1=>?_);show R1 E2 none _ A2 H2 _;clear t4 t5 t6 t7 t8 t9 t10 t38 z0 A0 A flen flt S7 U5 c1 G1 p1 p3;obtain⟨t4,t5,t6,t7,t8,t9,t10,t11,z0,A0⟩:=L1;have R3:=Lp.start (v:=z.v) (lr:=z.lr) (K:=kF z.ld z.v) (items:=items) (given:=given) D9.out hle;have hF2:Fr (SrC z.S r) H9 H2:=Fr.none g2;have W8:=j7.out.gr g2;replace R3:=hd R3;replace hF2:=hd hF2;refine R1.tV (λB H3=>∃(F':AC)(r':Option Nat)(found':List (List Fx)),Hd (Fr (SrC z.S r) H9 H3)/\Hd (Wk z X H9 r H3 F' found' r')/\Hd (LpZ z items given found found' λI T=>items.length+given.length+1<=z.c/\ab2 z items given w I T)/\dR B z.C1 z.C2 z.C3 b (b+1) (b+2) (b+3) (wI w) (B.nt=228/\B.dfr=[])) (λK6 m1 m2 m3=>?_) ?_
 ·cases w with
  |some n=>
   have cw:¬wI (some n)<0:=by show¬(n:Int)<0;omega
   obtain⟨hg,rl,u6,Q0⟩:=hw;have hL:=Lp.Xz E0.rp R3.out u6 hg Q0;replace hL:=ay hL;replace hg:=hd hg;replace u6:=hd u6;replace Q0:=hd Q0;replace W8:=hd W8;refine zW tyR ?_;exact m1.out _ _ ⟨F,r,found,hF2,W8,hL,zL⟩
  |none=>
   have cw:wI none<0:=by show(-1:Int)<0;decide
   have B3:=hB.out.now W8.nx;obtain⟨x0,x1,x2,x3,⟨q0,q1⟩,q2,q3⟩:=hB.out.box W8.nx;have c1:z.C1<H2.nx:=by have:=W8.st.clo.n;omega
   have G1:=W8.st.clo.g1;replace B3:=hd B3;replace W8:=hd W8;replace hw:=hd hw;refine zW tyR ?_;refine zG (qA tyR Yb) λK5 V0=>?_;have L1:=W8.out.st;refine WE.con (Xl E0 H2 z.S z.N z.pc z.pr z.la z.vv F iv nv z.lc z.c z.limit found r items L1.own L1.dat L1.xs L1.xn L1.fnd B3.out.it B3.out.nw hI.out U3 V8 Y5 D9.out P6.out) λw' H3 f3⟨N4,hq⟩=>?_;subst N4;obtain⟨F3,r3,found3,hW3,hP3⟩:=W8.out.call f3 (L1.took f3 hq λf hf=>⟨hf.ok,hf.le⟩);have hL:=Lp.right E0.rp Q6.out hw.out hP3;have J6:=W8.out.frc hF2.out f3;replace hL:=ay hL;clear hq L1 hP3;replace hW3:=hd hW3;replace J6:=hd J6;replace f3:=hd f3;refine zS tyR ?_;apply V0.out;exact m1.out _ _ ⟨F3,r3,found3,J6,hW3,hL,zL⟩
 clear t4 t5 t6 t7 t8 t9 t10 t11 z0 A0 A2 R3 hF2 W8;rintro A H3 ⟨F3,r3,found3,J6,hW3,hL3,t4,t5,t6,t7,t8,t9,t10,t11,z0,A0⟩;obtain⟨x0,x1,x2,x3,⟨q0,q1⟩,q2,q3⟩:=hB.out.box hW3.out.nx;cases left with
 |zero=>have cl:(((0:Nat):Int)==0)=true:=rfl;have hL:=Lp.ach hL3.out (by have:=S2.out;omega);replace hL:=hd hL;refine zW tyR ?_;exact fin.out _ _ _ [] X F3 r3 found3 (.inr rfl) qe J6.out (λ_ h=>h) hW3.out DfM.nil hL.out
 |succ l=>
  have cl:(((l+1:Nat):Int)==0)=false:=aF aa;have W4:=hih.out l rfl;have hL4:LpZ z items given found found3 (ab2 z items given w):=Lp.aci hL3.out;replace hL4:=hd hL4;refine R1.tV (λB H=>H=H3/\dR B z.C1 z.C2 z.C3 b (b+1) (b+2) (b+3) (wI w) (B.nt=228/\B.dfr=[])) (λK6 m1 m2 m3=>?_) ?_
  ·refine zW tyR ?_;exact m1.out _ _ ⟨rfl,zL⟩
  clear t4 t5 t6 t7 t8 t9 t10 t11 z0 A0 A;rintro A H8 ⟨rfl,t4,t5,t6,t7,t8,t9,t10,t11,z0,A0⟩;refine R1.tV (λB H4=>∃(F':AC)(r':Option Nat)(found':List (List Fx)),Hd (Fr (SrC z.S r) H9 H4)/\Hd (Wk z X H9 r H4 F' found' r')/\Hd (LpZ z items given found found' (tP z items given w 0))/\dR B z.C1 z.C2 z.C3 b (b+1) (b+2) (b+3) (wI w) (B.nt=228/\B.dfr=[])) (λK6 m1 m2 m3=>?_) ?_
  ·cases w with
   |none=>
    have cw:¬(0:Int)<=wI none:=by show¬(0:Int)<=-1;decide
    refine zW tyR ?_;exact m1.out _ _ ⟨F3,r3,found3,J6,hW3,hL4,zL⟩
   |some n=>
    have cw:(0:Int)<=wI (some n):=by show(0:Int)<=(n:Int);omega
    obtain⟨hg,rl,u6,Q0⟩:=hw;have P8:=(List.getElem?_eq_some_iff.1 u6).1;replace hg:=hd hg;replace u6:=hd u6;replace Q0:=hd Q0;refine zG tyR λK5 V0=>?_;apply V0.out;refine R1.lq (λA5=>dR A5 z.C1 z.C2 z.C3 b (b+1) (b+2) (b+3) (wI (some n)) (eO A5 79 (.b true) 228 [])) zL ?_;clear t4 t5 t6 t7 t8 t9 t10 t11 z0 A0 A V0 K5;rintro A ⟨t4,t5,t6,t7,t8,t9,t10,t11,t79,z0,A0⟩;refine qX (qA tyR t79) ?_;refine acj rfl V8 hB.out hW3.out W4 hg.out P8 hL4.out ⟨t4,t5,t6,t7,t8,t9,t10,t11,z0,A0⟩ λA2 H4 F4 r4 found4 f4 X2 z' hs4=>?_;obtain⟨t4,t5,t6,t7,t8,t9,t10,t11,z0,A0⟩:=hs4;have G8:=hW3.out.frc J6.out f4;exact m1.out _ _ ⟨F4,r4,found4,G8,X2,z',t4,t5,t6,t7,t8,t9,t10,t11,z0,A0⟩
  clear t4 t5 t6 t7 t8 t9 t10 t11 z0 A0 A hL3 hL4 x0 x1 x2 x3 q0 q1 q2 q3;rintro A H4 ⟨F4,r4,found4,G8,X2,z',t4,t5,t6,t7,t8,t9,t10,t11,z0,A0⟩;have p1:=X2.out.st.dat.now.rl.len;have p3:=X2.out.st.dat.now.rl.lt;have c1:z.C1<H4.nx:=by have:=X2.out.st.clo.n;omega
  have G1:=X2.out.st.clo.g1;obtain⟨S7,U5⟩:=X2.out.st.own;refine zW tyR ?_;exact abm rfl E0 V8 hB.out G8.out X2.out DfM.nil W4 z'.out zL λA2 H5 X5 F5 r5 found5 dl5 O9 f_ S8 P9 hP5 hdf5=>fin.out _ A2 H5 dl5 X5 F5 r5 found5 (.inl rfl) hdf5 O9 f_ S8 P9 hP5
def Jn{z:Sg}(E0:mu z.ld z.lr z.v)(V8:z.c<=3)(Y5:z.limit<=100)(Q6:LD z.v z.lr (kF z.ld z.v) z.c):∀left,xY z left
 |0=>El E0 V8 Y5 Q6 λl h=>aa
 |l+1=>El E0 V8 Y5 Q6 λk h=>by have:k=l:=aa;subst this;exact Jn E0 V8 Y5 Q6 k
def SrD.up{S N N':Nat}{H:Hp}{pc pr la vv:AC}{lc:List Cl}{lr:List Rl}{ld:List Lad}{v:List Int}(h:SrD S N H pc pr la vv lc lr ld v)(hn:N<=N')(hx:N'<=H.nx):SrD S N' H pc pr la vv lc lr ld v:=
 ⟨hx,λH' h1 h2=>h.2 H' h1 λi hi hh=>h2 i hi λhk=>hh (hk.imp id (aS hn))⟩
def Sol.way{v:List Int}{lr:List Rl}{K:Int->Int->Int}{c limit:Nat}{found found':List (List Fx)}(h:qD v lr K c limit [] [] found found'){f:List Fx}(hf:Sol v lr K c f):Got limit found' f:=by obtain⟨I,T,h1,h2,h3,h4,h5⟩:=hf;exact(h.go I T I f ⟨h1,h2,h3,Af _,List.nodup_nil,λ_ h=>absurd h List.not_mem_nil⟩ h5 h4).resolve_right id
def abR(n0 S:Nat)(pc pr la vv:AC)(ld:List Lad)(lr:List Rl)(v:List Int)(c limit:Nat)(H':Hp):Prop:=
 ∃F' r' found',SrR H' S pc pr la vv F' c limit/\Fnd (λk=>k=S) H' F' found' r'/\(∀k,r'=some k->n0<=k)/\FOk v lr (kF ld v) c limit found'/\found'.length<=limit+1/\∀f,Sol v lr (kF ld v) c f->Got limit found' f
def ZD{ld:List Lad}{lr:List Rl}{v:List Int}(E0:mu ld lr v){c limit:Nat}(V8:c<=3)(Y5:limit<=100)(Q6:LD v lr (kF ld v) c)(H:Hp)(S:Nat)(pc pr la vv:AC)(lc:List Cl)
  (hS:SrR H S pc pr la vv (.o .nilS) c limit) (hD:SrD S H.nx H pc pr la vv lc lr ld v):
  Con E2 51 [.one (.o (.ptr S 0 0 7))] H (λk=>k=S) λq H'=>q=.tup []/\abR H.nx S pc pr la vv ld lr v c limit H':=by
 replace Q6:=hd Q6;refine Con.hdb2 (λH=>SrR H S pc pr la vv (.o .nilS) c limit) hS (λH=>SrD S H.nx H pc pr la vv lc lr ld v) hD λH e hS hD=>?_;rw[<-e];clear e;refine C1.jR 16 [] Tryz.func51 λtm h0=>?_;replace hD:=hd hD;obtain⟨S7,U5⟩:=id hS;replace hS:=hd hS;refine zW (zDd tyR abC abB) ?_;refine R1.gen (λA3 H3=>Gr H H3/\H3.nx=H.nx+3/\H3.get H.nx=some (.arr [.o (.ptr S 0 0 7)] 127 0 0)/\H3.get (H.nx+1)=some (.arr [.o (.clo 102 [(H.nx,0,0,1),(H.nx+1,0,0,1),(H.nx+1+1,0,0,1)])] 193 0 0) /\
   H3.get (H.nx+1+1)=some (.arr [.o (.clo 100 [(H.nx+1,0,0,1),(H.nx,0,0,1)])] 196 0 0)/\slot A3.tm 1=.one (.o (.ptr H.nx 0 0 1))/\ox A3 (H.nx+1) (H.nx+1+1) (A3.nt=16/\A3.dfr=[]))
  ⟨(((((Fr.refl _).new _).new _).new _).mod _ (.inl aa)).mod _ (.inl aa),rfl,
    by rw[aB aa,aB aa,bw (by show H.nx<H.nx+1+1;omega),bw (by show H.nx<H.nx+1;omega)];exact aC rfl,aq rfl,by rw[aB aa];exact aq rfl,zL⟩ ?_
 clear h0 tm U5;rintro A3 H3 ⟨g3,n3,G1,G2,G3,t1,t2,t3,z0,A0⟩;have C_:=hS.out.gr g3;have hD3:SrD S (H.nx+3) H3 pc pr la vv lc lr ld v:=(hD.out.gr g3).up aa aa;obtain⟨z,hz⟩:∃z:Sg,z=⟨S,H.nx+3,H.nx,H.nx+1,H.nx+1+1,pc,pr,la,vv,lc,ld,lr,v,c,limit⟩:=⟨_,rfl⟩;have hs:SrS ⟨S,H.nx+3,H.nx,H.nx+1,H.nx+1+1,pc,pr,la,vv,lc,ld,lr,v,c,limit⟩ (λk=>k=S) H3 (.o .nilS) [] none:=
  ⟨C_,hD3,Fnd.nil,rfl,λk(hk:k=S)=>by rw[hk];exact C_.1,λk hk=>by (cases hk),⟨⟨⟨by show H.nx<H.nx+3;omega,by show H.nx+1<H.nx+3;omega,by show H.nx+1+1<H.nx+3;omega⟩,by show H.nx+3<=H3.nx;omega⟩,⟨by show H.nx≠S;omega,by show H.nx+1≠S;omega,by show H.nx+1+1≠S;omega⟩,G1,G2,G3⟩,FOk.nil,Nat.zero_le _⟩
 have hk:Kp ⟨S,H.nx+3,H.nx,H.nx+1,H.nx+1+1,pc,pr,la,vv,lc,ld,lr,v,c,limit⟩ (SrC S none) H3 (.o .nilS) vv (.o .nilM) [] []:=λH' n g=>⟨SlF.nil,(hD3.2 H' n λi hi hx=>g i hi λhh=>hh.elim (λe=>hx (.inl e)) λe=>by cases e).vi,.inl ⟨rfl,rfl⟩⟩;have hfc:=Jn (z:=⟨S,H.nx+3,H.nx,H.nx+1,H.nx+1+1,pc,pr,la,vv,lc,ld,lr,v,c,limit⟩) E0 V8 Y5 Q6.out c (λk=>k=S) H3 (.o .nilS) vv (.o .nilM) (.o .nilS) [] [] [] none hs hk ⟨λ_ h=>absurd h List.not_mem_nil,List.Pairwise.nil⟩ List.nodup_nil (λ_ h=>absurd h List.not_mem_nil) (Nat.zero_add c);obtain⟨hS4,hS5⟩:=C_;have q1:H.nx<H3.nx:=aa;have q2:H.nx+1<H3.nx:=aa;clear hz z;replace hfc:=hd hfc;replace hs:=hd hs;replace hk:=hd hk;replace hD3:=hd hD3;replace n3:=hd n3;refine zG (qA tyR FY) λK1 T8=>?_;refine WE.con hfc.out λw' H4 f4⟨hw,hq⟩=>?_;subst hw;have hf:Fr (λk=>k=S) H H4:=(Fr.none g3).then f4 λk hk=>hk.elim .inr λe=>by cases e
 have hQ:∀lg':List Nat,abR H.nx S pc pr la vv ld lr v c limit ⟨H4.t,H4.nx,lg'⟩:=λlg'=>by obtain⟨F',r',found',s1,s2,s3⟩:=hq.lg lg';exact⟨F',r',found',s1.own,s1.fnd,λk hk=>(s2 k hk).elim (λh=>by cases h) λh=>by have:=n3.out;omega,s1.ok,s1.le,λf hf=>Sol.way s3 hf⟩
 clear hq f4;replace hf:=hd hf;replace hQ:=hd hQ;refine zS tyR ?_;apply T8.out;exact⟨_,_,cS (.inl rfl) qe,hf.out,λlg'=>⟨rfl,hQ.out lg'⟩⟩
def AT{s:List UInt8}{u:AC}:vA [.o (.str s),u]=(AV.one u).ids:=by simp[vA,AV.ids,AC.ids,AO.ids]
def vJ:FrR uV:=λY H H' c x⟨u,h1,h2⟩hf hy=>⟨u,h1,SlC.fr h2 hf λk hk=>hy k (by rw[h1,AT];exact hk)⟩
def wc:LtR uV:=λH c x⟨u,h1,h2⟩k hk=>by rw[h1,AT]at hk;exact h2.lt k hk
def FL{H:Hp}{u:AC}{us:List Pr}(h:SlP H u us)(Q0:us≠[]){k lo gen:Nat}{cells:List AC}{e:TypeId}(hk:H.get k=some (.arr cells e lo gen))(hc:∀i s f,cells[i]?=some (.o (.str s))->cells[i+1]?=some (.i .i64 f)->False):k∉(AV.one u).ids:=by
 rcases h.2 with⟨rfl,_⟩|⟨id,g,off,rfl,_,cs,hr,h1,h2⟩
 ·exactλh=>by cases h
 intro hm;rw[List.mem_singleton.1 hm]at hk;rw[hk]at hr;have M3:cs=cells:=by
  have O4:(if lo<=g/\g<=gen then some cells else none)=some cs:=hr;by_cases q:lo<=g/\g<=gen
  ·rw[ad q]at O4;exact(eh O4).symm
  rw[ab q]at O4;cases O4
 subst M3;cases us with
 |nil=>exact Q0 rfl
 |cons x l=>
  have e2:(List.flatMap prC (x::l))=.o (.str x.1)::.i .i64 x.2::List.flatMap prC l:=rfl;rw[e2]at h2;refine hc off x.1 x.2 ?_ ?_
  ·have:=congrArg (λq=>q[0]?) h2;rw[List.length_cons]at this;simp only[List.getElem?_cons_zero]at this;rw[tv aa,iV,Nat.add_zero]at this;exact this
  have:=congrArg (λq=>q[1]?) h2;rw[List.length_cons]at this;simp only[List.getElem?_cons_succ,List.getElem?_cons_zero]at this;rw[tv aa,iV]at this;exact this
def ldC(ls:List Lad)(lc:List Cl):List Lad:=lc.map λy=>bX (some ls) y.2.2.1
def py(ls:List Lad)(lc:List Cl):(ldC ls lc).length=lc.length:=cP ..
def Zm{X:Nat->Prop}{H:Hp}{v:AC}{l:List Lad}{r:Option Nat}{e:TypeId}(h:gh uV 2 e X H v l r){u:AC}{us:List Pr}(hu:SlP H u us)(Q0:us≠[]):∀k∈(AV.one u).ids,some k≠r:=λk hk hr=>by
 obtain⟨css,a,b⟩:=h.own;rcases a with⟨_,_,_,e'⟩|⟨id,lo,gen,e1,_,e2,_⟩
 ·rw[e']at hr;cases hr
 rw[e1]at hr;cases hr
 refine FL hu Q0 e2 (λi s f h1 h2=>?_) hk;have key:∀{css:List (List AC)}{l:List Lad},Al (λc x=>c.length=2/\uV H c x/\∀id∈vA c,¬X id/\some id≠r) css l->∀q∈css.flatMap id,∃o,q=.o o:=λ{css}=>by
  induction css with
  |nil=>intro l _ q hq;cases hq
  |cons c css ih=>
   intro l hl q hq;cases l with
   |nil=>exact hl.elim
   |cons y l=>
    rw[List.flatMap_cons]at hq;rcases List.mem_append.1 hq with hq|hq
    ·obtain⟨_,⟨w,hw,X1⟩,_⟩:=hl.1;have M':q∈[AC.o (.str y.1),w]:=by rw[<-hw];exact hq
     rcases List.mem_cons.1 M' with M'|M'
     ·exact⟨_,M'⟩
     rw[List.mem_singleton.1 M'];rcases X1.2 with⟨h,_⟩|⟨_,_,_,h,_⟩<;>exact⟨_,h⟩
    exact ih hl.2 q hq
 obtain⟨o,ho⟩:=key b _ (gN h2);cases ho
def SlC.Pw{H:Hp}{v:AC}{sz n:Nat}{c:List AC}(h:SlC H v sz n c)(s:List UInt8):v≠.o (.str s):=λe=>by rcases h.2 with⟨h,_⟩|⟨_,_,_,h,_⟩<;>(rw[e]at h;cases h)
def acg{c:Code}(hc:atF Tryz.f24 [1,1,0,1]=some c){k a b w:AC}{ls:List Lad}{lc:List Cl}{lr:List Rl}{v:List Int}{B limit:Nat}{H H1:Hp}{A:ag}{K:au->ag->Hp->Prop}{S:Nat}
  (hk:dN H k (some ls)) (hL:∀x∈ls,x.2.length<=1000000) (ha:dD H a lc) (hb:ei H b lr) (hw:SlI H w v) (hC:lc.length<=64) (L0:∀y∈lc,aP (bX (some ls) y.2.2.1).1 (bX (some ls) y.2.2.1).2=0)
  (hS:H.nx<=S) (g1:Gr H H1) (n1:S<H1.nx) (G0:H1.get S=some (.arr [a,b,.o .nilS,w,.i .i64 0,.i .i64 (limit:Int),.o .nilS] 129 0 0))
  (hs:slot A.tm 0=.one (k)/\iB A B (lJ A S (oA A 22 23 24 (a) (.i .i64 (lc.length:Int)) (.i .i64 (0:Int)) 74 [])))
  (hK:∀(A2:ag)(H2:Hp)(la:AC)(r:Option Nat),Gr H H2->S<H2.nx->H2.get S=some (.arr [a,b,la,w,.i .i64 0,.i .i64 (limit:Int),.o .nilS] 129 0 0)->gh uV 2 51 (λk=>k=S) H2 la (ldC ls lc) r->iB A2 B (lJ A2 S (A2.nt=74/\A2.dfr=[]))->K .normal A2 H2):R1 E2 none c A H1 K:=by
 cases hc
 obtain⟨t0,t3,t11,t22,t23,t24,z0,A0⟩:=hs;replace hK:=hd hK;replace hb:=hd hb;replace hw:=hd hw;refine R1.mD λK1 k1 k2 k3 k4=>?_;refine R1.loop (λm A H2=>∃(i:Nat)(la:AC)(r:Option Nat),m=lc.length-i/\i<=lc.length/\Gr H H2/\S<H2.nx/\H2.get S=some (.arr [a,b,la,w,.i .i64 0,.i .i64 (limit:Int),.o .nilS] 129 0 0)/\Hd (gh uV 2 51 (λk=>k=S) H2 la ((ldC ls lc).take i) r)/\Hd (∀q,r=some q->H.nx<=q)/\slot A.tm 0=.one (k)/\iB A B (lJ A S (slot A.tm 22=.one (a)/\qi A lc.length i (A.nt=74/\A.dfr=[])))) ?_ lc.length
  ⟨0,.o .nilS,none,rfl,Nat.zero_le _,g1,n1,G0,gh.nil,(λq hq=>(by cases hq):∀q,(none:Option Nat)=some q->H.nx<=q),t0,t3,t11,t22,t23,t24,z0,A0⟩
 clear t0 t3 t11 t22 t23 t24 z0 A0 A g1 n1 G0 H1;rintro m A H2 ⟨i,la,r,rfl,U3,g2,n2,G0,ho,hr,t0,t3,t11,t22,t23,t24,z0,A0⟩;refine zW tyR ?_;refine zI tyR (λM9=>?_) (λM9=>?_)
 ·have B0:i<lc.length:=aa;have ex:=aA B0;have M0:=List.drop_eq_getElem_cons B0;have Y1:=cK B0;have D0:=bW B0;generalize lc[i]=y at ex M0 Y1 D0;have X1:=bB i;have R8:=ha.gr g2;obtain⟨id,g,off,cells,hae,hid,W0,J0⟩:=R8.open aa;obtain⟨p,q,hx⟩:=J0 i y ex;have y1:=hx.all;have y2:=hx.le;have hcy:=L0 y D0;rw[hae]at t22;clear J0 hx Y1 D0 M0;replace hae:=hd hae;replace ex:=hd ex;replace hcy:=hd hcy;refine zW tyR ?_;refine R1.dL λK2 q1 q2 q3 q4=>?_;refine zG (qA tyR (ixC B0)) λK5 V0=>?_;apply V0.out;refine R1.gen (λA4 H4=>Gr H2 H4/\H2.nx<H4.nx/\H4.get H2.nx=some (.arr [.i .i64 y.1,.o (.str y.2.1),.o (.str y.2.2.1),p,q] 58 0 0)/\slot A4.tm 0=.one (k)/\iB A4 B (lJ A4 S (eQ A4.tm 13 22 (.o (.ptr H2.nx 0 0 5)) (a) (qi A4 lc.length i (A4.nt=74/\A4.dfr=[])))))
   ⟨((Fr.refl _).new _).mod _ (.inl (ai _)),ba _,aq rfl,by rw[hae.out];exact zL⟩ ?_
  clear t0 t3 t11 t22 t23 t24 z0 A0 A hid W0 y1 y2 V0 K5;rintro A H4 ⟨g4,n4,rM,t0,t3,t11,t13,t22,t23,t24,z0,A0⟩;refine zG (qA tyR xj) λK5 V0=>?_;refine WE.con (uA H4 k (some ls) y.2.2.1 (hk.gr (g2.gr g4)) (λls' h=>by cases h;exact hL)) λw' H5 g5⟨c,N4,hc,S1⟩=>?_;subst N4;obtain⟨u,rfl,hu⟩:=hc.of;clear S1 hc;refine zS tyR ?_;apply V0.out;refine R1.gen (λA5 H6=>Gr H5 H6/\H5.nx<H6.nx/\H6.get H5.nx=some (.arr [.o (.str (bX (some ls) y.2.2.1).1),u] 51 0 0)/\slot A5.tm 0=.one (k)/\iB A5 B (lJ A5 S (eQ A5.tm 14 22 (.o (.ptr H5.nx 0 0 2)) (a) (qi A5 lc.length i (A5.nt=74/\A5.dfr=[])))))
   ⟨((Fr.refl _).new _).mod _ (.inl (ai _)),ba _,aq rfl,zL⟩ ?_
  clear t0 t3 t11 t13 t22 t23 t24 z0 A0 A V0 K5;rintro A H6 ⟨g6,n6,rL,t0,t3,t11,t14,t22,t23,t24,z0,A0⟩;have g26:Gr H2 H6:=g4.gr (g5.gr g6);have g06:Gr H H6:=g2.gr g26;have I7:SlP H6 u (bX (some ls) y.2.2.1).2:=hu.gr g6;obtain⟨E5,n26⟩:=bD g26 n2 G0;have ho6:=ho.out.gr vJ wc g26;have Q0:(bX (some ls) y.2.2.1).2≠[]:=λe=>by obtain⟨x,l,h,_⟩:=eT hcy.out;rw[e]at h;cases h
  have hlad:∀s,la≠.o (.str s):=λs=>by obtain⟨_,hc,_⟩:=ho6.slr;exact SlC.Pw (H:=H6) hc s
  have hwd:∀s,w≠.o (.str s):=λs=>SlC.Pw (H:=H) hw.out s;have had:∀s,a≠.o (.str s):=λs=>by obtain⟨_,hc,_⟩:=ha;exact SlC.Pw (H:=H) hc s
  have hbd:∀s,b≠.o (.str s):=λs=>by obtain⟨_,hc,_⟩:=hb.out;exact SlC.Pw (H:=H) hc s
  have huS:S∉(AV.one u).ids:=FL I7 Q0 E5 λi s f h1 h2=>by
   match i,h1 with
   |0,h1=>exact had s (by simpa using h1)
   |1,h1=>exact hbd s (by simpa using h1)
   |2,h1=>exact hlad s (by simpa using h1)
   |3,h1=>exact hwd s (by simpa using h1)
   |4,h1=>simp at h1
   |5,h1=>simp at h1
   |6,h1=>simp at h1
   |n+7,h1=>simp at h1
  have hur:=Zm ho6 I7 Q0;have hll:((ldC ls lc).take i).length<=64:=by rw[dM,py];omega
  obtain⟨zz,hz,Q1⟩:=ND;obtain⟨R6,v9,H9,r9,B1,Q7,j5,P7⟩:=ho6.push vJ wc gQ Ma hz Q1 aU (λj(hj:j=S)=>by rw[hj];exact n26) (c0:=[.o (.str (bX (some ls) y.2.2.1).1),u]) (x:=bX (some ls) y.2.2.1) rfl ⟨u,rfl,I7⟩ (λj hj=>by rw[AT]at hj;exact⟨λ(e:j=S)=>huS (by rw[<-e];exact hj),hur j hj⟩) aa
  have hrX:∀q,r=some q->q≠S:=λq hq=>(ho6.row q hq).1;have L6:=(j5.get S n26 λhh=>hrX S hh rfl).trans E5;have n29:S<H9.nx:=ax n26 j5.nx;have g09:Gr H H9:=g06.then j5 λq hq=>.inl (hr.out q hq);have htk2:(ldC ls lc).take i++[bX (some ls) y.2.2.1]=(ldC ls lc).take (i+1):=by
   rw[List.take_add_one];congr 1
   unfold ldC;rw[pV,ex.out];rfl
  rw[htk2]at Q7;have ho10:∀o,gh uV 2 51 (λk=>k=S) (H9.mod S o) v9 ((ldC ls lc).take (i+1)) (some r9):=λo=>Q7.fr vJ wc ((Fr.refl (X:=λk=>k=S) H9).mod _ (.inr rfl)) λj hj=>.inl hj;have Q9:∀q,some r9=some q->H.nx<=q:=λq hq=>by
   cases hq
   rcases P7 with h|h
   ·exact hr.out _ h
   have:=g06.nx;omega
  clear hz Q1 zz j5 P7 Q7 ho6 hlad hwd had hbd hur huS Q0;replace ho10:=hd ho10;replace Q9:=hd Q9;replace htk2:=hd htk2;replace hrX:=hd hrX;replace g06:=hd g06;replace g09:=hd g09;replace hu:=hd hu;replace I7:=hd I7;replace hll:=hd hll;refine zG (qA tyR jU) λK5 V0=>?_;refine⟨R6,?_⟩;refine zK tyR ?_;apply q1.out;refine zW tyR ?_;exact⟨lc.length-(i+1),aa,i+1,v9,some r9,rfl,B0,g09.out.mod _ (.inl hS),n29,aq rfl,ho10.out _,Q9,zL⟩
 have U0:i=lc.length:=aa;rw[U0,<-py ls lc,pZ]at ho;clear U0;replace ho:=hd ho;refine zW tyR ?_;apply k2.out;exact hK.out _ _ la r g2 n2 G0 ho.out zL
def aaH:ao prog 51=true:=ae
def xf(v:List Int)(lr:List Rl)(K:Int->Int->Int)(B limit:Nat)(found:List (List Fx)):Prop:=
 (found=[]/\∀c≤B,∀f,¬Sol v lr K c f)\/∃c≤B,found≠[]/\FOk v lr K c limit found/\found.length<=limit+1/\(∀f,Sol v lr K c f->Got limit found f)/\∀c'<c,∀f,¬Sol v lr K c' f
def Yy{limit:Nat}{f:List Fx}(h:Got limit [] f):False:=by
 unfold Got at h;by_cases c:limit=0
 ·rw[ad c]at h;obtain⟨_,h,_⟩:=h;cases h
 rw[ab c]at h;rcases h with h|h
 ·cases h
 exact absurd h (Nat.not_lt_zero _)
def Fnd.abe{X:Nat->Prop}{H:Hp}{F:AC}{r:Option Nat}(h:Fnd X H F [] r):F=.o .nilS:=by
 rcases h with⟨h,_⟩|⟨_,_,_,_,_,_,_,_,_,_,_,h,_⟩
 ·exact h
 exact absurd h (Nat.lt_irrefl 0)
def aaQ{c:Code}(hc:atF Tryz.f24 [1,1,1,0,1]=some c){a b la w:AC}{ld:List Lad}{lc:List Cl}{lr:List Rl}{v:List Int}(E0:mu ld lr v){B limit S N:Nat}(hB:B<=3)(Y5:limit<=100){H:Hp}{A:ag}{K:au->ag->Hp->Prop}
  (hD:SrD S N H a b la w lc lr ld v) (B_:S<H.nx) (G0:H.get S=some (.arr [a,b,la,w,.i .i64 0,.i .i64 (limit:Int),.o .nilS] 129 0 0))
  (hs:iB A B (lJ A S (A.nt=74/\A.dfr=[])))
  (hK:∀(A2:ag)(H2:Hp)(F':AC)(r':Option Nat)(found':List (List Fx))(cc:Nat),Fr (λk=>k=S) H H2->S<H2.nx->H2.get S=some (.arr [a,b,la,w,.i .i64 (cc:Int),.i .i64 (limit:Int),F'] 129 0 0)->Fnd (λk=>k=S) H2 F' found' r'->xf v lr (kF ld v) B limit found'->lJ A2 S (A2.nt=74/\A2.dfr=[])->K .normal A2 H2):R1 E2 none c A H K:=by
 cases hc
 obtain⟨t3,t11,z0,A0⟩:=hs;replace hK:=hd hK;replace hD:=hd hD;refine R1.mD λK1 k1 k2 k3 k4=>?_;refine R1.loop (λm A H2=>∃cc:Nat,m=B+1-cc/\cc<=B+1/\Hd (Fr (λk=>k=S) H H2)/\S<H2.nx/\H2.get S=some (.arr [a,b,la,w,.i .i64 (cc:Int),.i .i64 (limit:Int),.o .nilS] 129 0 0)/\Hd (∀c'<cc,∀f,¬Sol v lr (kF ld v) c' f)/\iB A B (lJ A S (A.nt=74/\A.dfr=[]))) ?_ (B+1)
  ⟨0,rfl,Nat.zero_le _,Fr.refl _,B_,G0,(λc' h=>absurd h (Nat.not_lt_zero _):∀c'<0,∀f,¬Sol v lr (kF ld v) c' f),t3,t11,z0,A0⟩
 clear t3 t11 z0 A0 A B_ G0;rintro m A H2 ⟨cc,rfl,S1,hf,B_,G0,E4,t3,t11,z0,A0⟩;have X1:=bB cc;by_cases S5:cc<=B
 ·have hcb2:(cc:Int)<=(B:Int):=aa;refine zW tyR ?_;refine R1.dL λK2 q1 q2 q3 q4=>?_;have hD2:SrD S H2.nx H2 a b la w lc lr ld v:=(hD.out.fr hf.out λk h=>.inl h).up (aS hD.out.1 hf.out.nx) (ai _);refine zG (qA tyR aaH) λK5 V0=>?_;refine WE.con (ZD E0 aa Y5 (Ry E0.rp E4.out) H2 S a b la w lc ⟨B_,G0⟩ hD2) λw' H3 f3⟨hw,hq⟩=>?_;subst hw;obtain⟨F',r',found',⟨C_,w8⟩,J6,hr3,D9,hle,hgot⟩:=hq;have flen:=J6.len;have flt:=J6.lt;have hf3:Fr (λk=>k=S) H H3:=hf.out.then f3 λk h=>.inr h;clear hD2 hr3;replace hf3:=hd hf3;replace f3:=hd f3;replace D9:=hd D9;replace hgot:=hd hgot;replace hle:=hd hle;by_cases hl:found'=[]
  ·subst hl;have hFe:=J6.abe;subst hFe;have Z8:∀c'<cc+1,∀f,¬Sol v lr (kF ld v) c' f:=λc' o_ f hs=>by
    rcases Nat.lt_succ_iff_lt_or_eq.1 o_ with h|h
    ·exact E4.out c' h f hs
    subst h;exact Yy (hgot.out f hs)
   replace Z8:=hd Z8;replace J6:=hd J6;refine zK tyR ?_;apply q1.out;refine zW tyR ?_;exact⟨B+1-(cc+1),aa,cc+1,rfl,aa,hf3.out.mod _ (.inr rfl),C_,aq rfl,Z8,zL⟩
  have hlen0:(0:Int)<(found'.length:Int):=by have:=List.length_pos_iff.2 hl;omega
  have hP:xf v lr (kF ld v) B limit found':=.inr ⟨cc,S5,hl,D9.out,hle.out,hgot.out,E4.out⟩;replace hP:=hd hP;replace hl:=hd hl;replace J6:=hd J6;refine zK tyR ?_;refine q3.out _ _ _ aU ?_;apply k2.out;exact hK.out _ _ F' r' found' cc hf3.out C_ w8 J6.out hP.out zL
 have hcb2:¬(cc:Int)<=(B:Int):=aa;have hP:xf v lr (kF ld v) B limit []:=.inl ⟨rfl,λc' o_=>E4.out c' aa⟩;replace hP:=hd hP;replace S5:=hd S5;refine zW tyR ?_;apply k2.out;exact hK.out _ _ (.o .nilS) none [] cc hf.out B_ G0 Fnd.nil hP.out zL
def yd:ao prog 24=true:=ae
def vz(H:Hp)(k a b w:AC)(ls:List Lad)(lc:List Cl)(lr:List Rl)(v:List Int)(B limit:Nat)(hk:dN H k (some ls))(hL:∀x∈ls,x.2.length<=1000000)(ha:dD H a lc)(hb:ei H b lr)(hw:SlI H w v)(hC:lc.length<=64)
  (L0:∀y∈lc,aP (bX (some ls) y.2.2.1).1 (bX (some ls) y.2.2.1).2=0) (E0:mu (ldC ls lc) lr v) (hB:B<=3) (Y5:limit<=100):
  Con E2 24 [.one k,.agg [a,b],.one w,.one (.i .i64 (B:Int)),.one (.i .i64 (limit:Int))] H (λ_=>False) λq H'=>∃F' r' found',q=.one F'/\Fnd (λ_=>False) H' F' found' r'/\xf v lr (kF (ldC ls lc) v) B limit found':=by
 refine Con.of rfl λlg=>?_;have hk:dN ⟨H.t,H.nx,lg⟩ k (some ls):=dN.same (H:=H) rfl rfl hk;have ha:dD ⟨H.t,H.nx,lg⟩ a lc:=ha;have hb:ei ⟨H.t,H.nx,lg⟩ b lr:=hb;have hw:SlI ⟨H.t,H.nx,lg⟩ w v:=hw;generalize(⟨H.t,H.nx,lg⟩:Hp)=H at hk ha hb hw |-
 refine C1.QK 74 [.tmp 10] Tryz.func24 λtm h0 h1 h2 h3 h4=>?_;replace L0:=hd L0;replace hL:=hd hL;refine zG tyR λK1 T8=>?_;apply T8.out;refine R1.gen (λA1 H1=>Gr H H1/\H1.nx=H.nx+1/\H1.get H.nx=some (.arr [a,b] 26 0 0)/\eQ A1.tm 0 2 (k) (w) (jz A1 B limit (fM A1 H.nx (eO A1 10 (.o .nilS) 74 [])))) ⟨(Fr.refl _).new _,rfl,aC rfl,zL⟩ ?_;clear h0 h1 h2 h3 h4 tm T8 K1;rintro A H1 ⟨g1,n1,r1,t0,t2,t3,t4,t6,t10,z0,A0⟩;have n1':H.nx<H1.nx:=aa;replace n1:=hd n1;refine zG (zDg tyR ZQ Zw RQ RR RS) λK1 T8=>?_;apply T8.out;refine R1.gen (λA1 H2=>Gr H H2/\Gr H1 H2/\H1.nx<H2.nx/\H2.get H1.nx=some (.arr [a,b,.o .nilS,w,.i .i64 0,.i .i64 (limit:Int),.o .nilS] 129 0 0)/\slot A1.tm 0=.one (k)/\iB A1 B (fM A1 H.nx (lJ A1 H1.nx (A1.nt=74/\A1.dfr=[])))) ⟨g1.new _,(Fr.refl _).new _,ba _,aC rfl,zL⟩ ?_;clear t0 t2 t3 t4 t6 t10 z0 A0 A T8 K1;rintro A H2 ⟨g2,g12,n2,G0,t0,t3,t6,t11,z0,A0⟩;have r2:=(g12.get _ n1' aE).trans r1;have n02:H.nx<H2.nx:=ax n1' g12.nx;have l1:=(ha.gr g2).len;have l2:=(ha.gr g2).lt;obtain⟨S,hSe⟩:=dI H1.nx;rw[<-hSe]at n2 G0 t11;have B_:H.nx<=S:=aa;replace hSe:=hd hSe;replace hk:=hd hk;replace ha:=hd ha;replace hb:=hd hb;replace hw:=hd hw;clear r1 g12;refine zW tyR ?_;refine R1.seq (acg rfl hk.out hL.out ha.out hb.out hw.out hC L0.out B_ g2 n2 G0 zL λA2 H3 la r g3 n3 w8 ho s7=>?_);show R1 E2 none _ A2 H3 _;clear t0 t3 t6 t11 z0 A0 A l1 l2 G0 r2;obtain⟨t3,t11,z0,A0⟩:=s7;refine zG tyR λK1 T8=>?_;apply T8.out;refine R1.gen (λA4 H4=>Gr H H4/\S<H4.nx/\H4.get S=some (.arr [a,b,la,w,.i .i64 0,.i .i64 (limit:Int),.o .nilS] 129 0 0)/\gh uV 2 51 (λk=>k=S) H4 la (ldC ls lc) r/\iB A4 B (lJ A4 S (A4.nt=74/\A4.dfr=[])))
  ⟨g3.mod _ (.inl B_),n3,aq rfl,ho.fr vJ wc ((Fr.refl (X:=λk=>k=S) H3).mod _ (.inr rfl)) λj hj=>.inl hj,zL⟩ ?_
 clear t3 t11 z0 A0 A2 T8 K1 ho w8;rintro A H4 ⟨g4,n4,K_,ho,t3,t11,z0,A0⟩;have hD:SrD S H4.nx H4 a b la w lc lr (ldC ls lc) v:=⟨ai _,λH' h1 h2=>by have hle:=g4.nx;have gf:Gr H ⟨H'.t,H'.nx,H.log⟩:=⟨aS hle h1,λi hi _=>(h2 i aa λhx=>hx.elim (λe=>aa) λe=>aa).trans (g4.get i hi aE),[],rfl,λ_ h=>by cases h⟩;have ff:Fr (SrX S H4.nx) H4 ⟨H'.t,H'.nx,H4.log⟩:=⟨h1,h2,[],rfl,λ_ h=>by cases h⟩;exact⟨(ha.out.gr gf:dD ⟨H'.t,H'.nx,H.log⟩ a lc),(hb.out.gr gf:ei ⟨H'.t,H'.nx,H.log⟩ b lr),((ho.fr vJ wc ff λj hj=>hj).slr:SlR uV 2 ⟨H'.t,H'.nx,H4.log⟩ la (ldC ls lc)),(hw.out.gr gf:SlI ⟨H'.t,H'.nx,H.log⟩ w v)⟩⟩
 refine R1.seq (aaQ rfl E0 hB Y5 hD n4 K_ ⟨t3,t11,z0,A0⟩ λA5 H5 F' r' found' cc f5 n5 q8 O9 hP k8=>?_);show R1 E2 none _ A5 H5 _;clear t3 t11 z0 A0 A K_ ho hD;obtain⟨t11,z0,A0⟩:=k8;have g5:Gr H H5:=g4.then f5 λj(hj:j=S)=>.inl aa;have hF6:Fnd (λ_=>False) H5 F' found' r':=O9.wide λ_ h=>h.elim;replace hF6:=hd hF6;replace O9:=hd O9;replace hP:=hd hP;replace f5:=hd f5;refine zW tyR ?_;exact⟨_,_,aw F' (.inr rfl) qe qp,g5,λlg'=>⟨F',r',found',rfl,hF6.out,hP.out⟩⟩
def QG:ao prog 7=true:=ae
def zR{ls:List Lad}{p:Pz}{v:List Int}(h:gJ (some ls) p v=0)(L0:∀x∈ls,aP x.1 x.2=0):mu (ldC ls p.1) p.2 v:=by
 obtain⟨hC,hR,Z1,hcp,_⟩:=zh h;obtain⟨_,e,_,_,R5,W0⟩:=qR hcp;cases e
 have hvr:=Tl h;have hl:v.length=(ldC ls p.1).length:=by rw[py];exact Z1
 have hc:∀x∈ldC ls p.1,aP x.1 x.2=0:=λx hx=>by obtain⟨y,hy,rfl⟩:=List.mem_map.1 hx;exact L0 _ (xA (zr R5 y hy))
 exact⟨hl,by have:p.1.length<=64:=hC;omega,by have:p.2.length<=64:=hR;omega,hc,hvr,acu W0 (by have:p.1.length<=64:=hC;omega) Z1 hvr λi to=>aa9 hl hc hvr i to⟩
def CM(o:Option (List Lad))(p:Pz)(v:List Int)(B:Int)(f:List Fx)(e:Int):Prop:=
 (gJ o p v≠0/\e=gJ o p v/\f=[])\/(gJ o p v=0/\(B<0\/3<B)/\e=8/\f=[])\/(gJ o p v=0/\(0<=B/\B<=3)/\∃ls,o=some ls /\
  ((e=4/\f=[]/\∀cc:Nat,(cc:Int)<=B->∀g,¬Sol v p.2 (kF (ldC ls p.1) v) cc g) \/
   (e=0/\∃cc:Nat,(cc:Int)<=B/\Sol v p.2 (kF (ldC ls p.1) v) cc f/\(∀c'<cc,∀g,¬Sol v p.2 (kF (ldC ls p.1) v) c' g)/\∀g,Sol v p.2 (kF (ldC ls p.1) v) cc g->cm g f=false)))
def Nb(H:Hp)(k a b w:AC)(o:Option (List Lad))(p:Pz)(v:List Int)(B:Int)(hk:dN H k o)(hL:∀ls,o=some ls->∀x∈ls,x.2.length<=1000000)(L0:∀ls,o=some ls->∀x∈ls,aP x.1 x.2=0)(ha:dD H a p.1)(hb:ei H b p.2)(hB:PzB p)(hw:SlI H w v)(hV:v.length<=4611686018427387904):
  Con E2 7 [.one k,.agg [a,b],.one w,.one (.i .i64 B)] H (λ_=>False) λr H'=>∃c e f,r=.tup [(false,[c]),(false,[.i .i64 e])]/\SlF H' c f/\CM o p v B f e:=by
 refine Con.of rfl λlg=>?_;have hk:dN ⟨H.t,H.nx,lg⟩ k o:=dN.same (H:=H) rfl rfl hk;have ha:dD ⟨H.t,H.nx,lg⟩ a p.1:=ha;have hb:ei ⟨H.t,H.nx,lg⟩ b p.2:=hb;have hw:SlI ⟨H.t,H.nx,lg⟩ w v:=hw;generalize(⟨H.t,H.nx,lg⟩:Hp)=H at hk ha hb hw |-
 refine C1.QJ 36 [.tmp 8,.tmp 9] Tryz.func7 λtm h0 h1 h2 h3=>?_;have fin:Hd (∀(c:AC)(e:Int)(f:List Fx)(A:ag)(H3:Hp),slot A.tm 8=.one c->slot A.tm 9=.one (.i .i64 e)->A.dfr=[]->Gr H H3->SlF H3 c f->CM o p v B f e ->
   ∃w H4,aK E2 [.tmp 8,.tmp 9] (.ret,A,H3)=.ok [(w,H4)]/\Gr H H4/\∀lg:List Nat,∃c e f,w=.tup [(false,[c]),(false,[.i .i64 e])]/\SlF ⟨H4.t,H4.nx,lg⟩ c f/\CM o p v B f e):=λc e f A H3 h8 h9 hdd hg hs hr=>
  ⟨_,H3,bP c (.i .i64 e) (.inr rfl) hdd h8 h9,hg,λlg=>⟨c,e,f,rfl,hs,hr⟩⟩
 refine zG tyR λK hK=>?_;apply hK.out;refine R1.gen (λA1 H1=>Gr H H1/\H.nx<H1.nx/\H1.get H.nx=some (.arr [a,b] 26 0 0)/\eQ A1.tm 0 2 (k) (w) (iB A1 B (eO A1 5 (.o (.ptr H.nx 0 0 2)) 36 []))) ⟨(Fr.refl _).new _,ba _,aC rfl,zL⟩ ?_;rintro A1 H1 ⟨g1,m1,rx,t0,t2,t3,t5,z0,A0⟩;clear h0 h1 h2 h3 tm hK K;have hk:=hk.gr g1;have ha:=ha.gr g1;have hb:=hb.gr g1;have hw:=hw.gr g1;refine zG (qA tyR qO) λK hK=>?_;refine WE.con (qj H1 k a b w o p v hk hL ha hb hB hw hV) λw' H2 g2 hq=>?_;subst hq;obtain⟨rx,m1⟩:=bD g2 m1 rx;have hk:=hk.gr g2;have ha:=ha.gr g2;have hb:=hb.gr g2;have hw:=hw.gr g2;have g2:=g1.gr g2;clear g1;by_cases Y0:gJ o p v=0
 case neg=>have ce:(gJ o p v==0)=false:=aF Y0;have hR:CM o p v B [] (gJ o p v):=.inl ⟨Y0,rfl,rfl⟩;have F1:SlF H2 (.o .nilS) []:=SlF.nil;replace hR:=hd hR;replace F1:=hd F1;replace Y0:=hd Y0;refine zK tyR ?_;exact fin.out (.o .nilS) _ [] _ _ qp qp qe g2 F1.out hR.out
 have ce:(gJ o p v==0)=true:=by rw[Y0];rfl
 obtain⟨hC,hRl,Z1,hcp,hrg⟩:=zh Y0;obtain⟨ls,rfl,_,_,R5,_⟩:=qR hcp;have E0:=zR Y0 (L0 ls rfl);have R7:∀y∈p.1,aP (bX (some ls) y.2.2.1).1 (bX (some ls) y.2.2.1).2=0:=λy hy=>L0 ls rfl _ (xA (zr R5 y hy));have hC64:p.1.length<=64:=hC;have l8:=hL ls rfl;have L3:=Y0;clear hRl Z1 hcp hrg R5 hB hV hL L0 hC;replace L3:=hd L3;replace E0:=hd E0;replace R7:=hd R7;replace l8:=hd l8;by_cases hB0:B<0
 ·have hR:CM (some ls) p v B [] 8:=.inr (.inl ⟨L3.out,.inl hB0,rfl,rfl⟩);have F1:SlF H2 (.o .nilS) []:=SlF.nil;replace hR:=hd hR;replace F1:=hd F1;refine zK tyR ?_;exact fin.out (.o .nilS) _ [] _ _ qp qp qe g2 F1.out hR.out
 by_cases hB3:3<B
 ·have hR:CM (some ls) p v B [] 8:=.inr (.inl ⟨L3.out,.inr hB3,rfl,rfl⟩);have F1:SlF H2 (.o .nilS) []:=SlF.nil;replace hR:=hd hR;replace F1:=hd F1;refine zK tyR ?_;exact fin.out (.o .nilS) _ [] _ _ qp qp qe g2 F1.out hR.out
 obtain⟨n,rfl⟩:=jL (Int.not_lt.1 hB0);have hn3:n<=3:=aa;refine zK tyR ?_;refine zG (qA tyR yd) λK hK=>?_;refine WE.con (vz H2 k a b w ls p.1 p.2 v n 0 hk l8.out ha hb hw hC64 R7.out E0.out hn3 aU) λw' H3 g3⟨F',r',found',N4,hF,hP⟩=>?_;subst N4;have flen:=hF.len;have flt:=hF.lt;have g3:=g2.gr g3;rcases hP with⟨rfl,E4⟩|⟨cc,hcn,Q0,D9,_,hgot,E4⟩
 ·have hFe:=hF.abe;subst hFe;have hR:CM (some ls) p v (n:Int) [] 4:=.inr (.inr ⟨L3.out,⟨aa,aa⟩,ls,rfl,.inl ⟨rfl,rfl,λcc S2 g=>E4 cc aa g⟩⟩);have F1:SlF H3 (.o .nilS) []:=SlF.nil;replace hR:=hd hR;replace F1:=hd F1;replace hF:=hd hF;replace E4:=hd E4;refine zK tyR ?_;exact fin.out (.o .nilS) _ [] _ _ qp qp qe g3 F1.out hR.out
 have hon:=D9.on rfl;cases found' with
 |nil=>exact absurd rfl Q0
 |cons f l=>
  have I9:l=[]:=List.eq_nil_of_length_eq_zero (by rw[List.length_cons]at hon;omega);subst I9;have R4:=D9.so f (aT ..);have hR:CM (some ls) p v (n:Int) f 0:=.inr (.inr ⟨L3.out,⟨aa,aa⟩,ls,rfl,.inr ⟨rfl,cc,aa,R4,E4,λg hg=>by have:=hgot g hg;unfold Got at this;rw[ad rfl]at this;obtain⟨g',Q2,e⟩:=this;rw[List.mem_singleton.1 Q2]at e;exact e⟩⟩)
  rcases hF with⟨_,h,_⟩|⟨id,gen,lo,us,ex,rfl,_,h3,h4,h5,_,_,h8⟩
  ·cases h
  cases us with
  |nil=>exact h8.elim
  |cons u us=>have hu:=h8.1.1;clear D9 hgot E4 R4 hon Q0 h8;replace hR:=hd hR;replace hu:=hd hu;refine zK tyR ?_;exact fin.out u _ f _ _ qp qp qe g3 hu.out hR.out
section
variable{ls:List Lad}{lc:List Cl}{lr:List Rl}{v:List Int}
end
section
variable{ls:List Lad}{lc:List Cl}{lr:List Rl}{v:List Int}
def Mw{i:Int}(h0:0<=i)(h1:i<lc.length):(ldC ls lc).getD i.toNat ([],[])=bX (some ls) (gX lc i):=by have B0:i.toNat<lc.length:=aa;unfold ldC gX;rw[bt,pV,aA B0];rfl
def UZ(E0:mu (ldC ls lc) lr v){x:Fx}(hx:0<=x.1/\x.1<v.length)(hf:x.2.1=v.getD x.1.toNat 0):
  UY ls lc lr x=if kF (ldC ls lc) v x.1 x.2.2.1≠0 then kF (ldC ls lc) v x.1 x.2.2.1 else if 0<=fv 0 lr x.1/\v.getD x.1.toNat 0≠x.2.2.1/\1<=x.2.2.1/\x.2.2.1<=1099511627776 then 5 else 0:=by
 obtain⟨L0,G7,G5⟩:=E0.lad hx.1 hx.2;have Z1:=E0.vl;rw[py]at Z1;have m_:=aa9 E0.vl E0.ck E0.vr x.1 x.2.2.1;have hL:=Mw (ls:=ls) (lc:=lc) hx.1 aa;have he:iQ (bX (some ls) (gX lc x.1)).1 (bX (some ls) (gX lc x.1)).2 x.2.2.1 x.2.1=kF (ldC ls lc) v x.1 x.2.2.1:=by
  rw[<-hL,hf];by_cases hb:1<=x.2.2.1/\x.2.2.1<=1099511627776
  ·exact(Si L0 G7 G5 hb.1 hb.2).symm
  have h0:kF (ldC ls lc) v x.1 x.2.2.1=0:=fL λh=>hb (m_ h).1;rw[h0];unfold iQ;rw[ab λh=>hb ⟨h.1.1,h.2.1⟩]
 unfold UY yz;rw[he,hf]
def OV{t:Int}:0<=fv 0 lr t↔∃r∈lr,r.1=t:=by
 rw[<-decide_eq_true_iff (p:=0<=fv 0 lr t),Lf];unfold isT;rw[List.any_eq_true];constructor
 ·rintro⟨r,hr,h⟩;exact⟨r,hr,by simpa using h⟩
 rintro⟨r,hr,h⟩;exact⟨r,hr,by simpa using h⟩
end
def Wt{o:Option (List Lad)}{p:Pz}{v:List Int}{B e:Int}{f:List Fx}(L0:∀ls,o=some ls->∀x∈ls,aP x.1 x.2=0)(h:CM o p v B f e):f.length<=3:=by
 rcases h with⟨_,_,rfl⟩|⟨_,_,_,rfl⟩|⟨h1,h2,ls,rfl,⟨_,rfl,_⟩|⟨_,cc,h4,h5,_⟩⟩
 ·exact Nat.zero_le _
 ·exact Nat.zero_le _
 ·exact Nat.zero_le _
 have:=(Sol.fxb (zR h1 (L0 ls rfl)).rp h5).2;omega
def LV:ao prog 18=true:=ae
def qI(o:Option (List Lad))(p:Pz)(v:List Int)(B L:Int)(fs:List (List Fx))(e:Int):Prop:=
 (gJ o p v≠0/\e=gJ o p v/\fs=[])\/(gJ o p v=0/\(B<0\/3<B\/L<1\/100<L)/\e=8/\fs=[])\/(gJ o p v=0/\(0<=B/\B<=3)/\(1<=L/\L<=100)/\∃ls,o=some ls /\
  ∃found,xf v p.2 (kF (ldC ls p.1) v) B.toNat L.toNat found/\(e,fs)=if found=[]then(4,[])else if L<found.length then(3,[])else(0,found))
def KJ(H:Hp)(k a b w:AC)(o:Option (List Lad))(p:Pz)(v:List Int)(B L:Int)(hk:dN H k o)(hL:∀ls,o=some ls->∀x∈ls,x.2.length<=1000000)(L0:∀ls,o=some ls->∀x∈ls,aP x.1 x.2=0)(ha:dD H a p.1)(hb:ei H b p.2)(hB:PzB p)(hw:SlI H w v)(hV:v.length<=4611686018427387904):
  Con E2 18 [.one k,.agg [a,b],.one w,.one (.i .i64 B),.one (.i .i64 L)] H (λ_=>False) λr H'=>∃c e fs,r=.tup [(false,[c]),(false,[.i .i64 e])]/\iR H' c fs/\qI o p v B L fs e:=by
 refine Con.of rfl λlg=>?_;have hk:dN ⟨H.t,H.nx,lg⟩ k o:=dN.same (H:=H) rfl rfl hk;have ha:dD ⟨H.t,H.nx,lg⟩ a p.1:=ha;have hb:ei ⟨H.t,H.nx,lg⟩ b p.2:=hb;have hw:SlI ⟨H.t,H.nx,lg⟩ w v:=hw;generalize(⟨H.t,H.nx,lg⟩:Hp)=H at hk ha hb hw |-
 refine C1.QK 49 [.tmp 10,.tmp 11] Tryz.func18 λtm h0 h1 h2 h3 h4=>?_;have fin:Hd (∀(c:AC)(e:Int)(f:List (List Fx))(A:ag)(H3:Hp),slot A.tm 10=.one c->slot A.tm 11=.one (.i .i64 e)->A.dfr=[]->Gr H H3->iR H3 c f->qI o p v B L f e ->
   ∃w H4,aK E2 [.tmp 10,.tmp 11] (.ret,A,H3)=.ok [(w,H4)]/\Gr H H4/\∀lg:List Nat,∃c e f,w=.tup [(false,[c]),(false,[.i .i64 e])]/\iR ⟨H4.t,H4.nx,lg⟩ c f/\qI o p v B L f e):=λc e f A H3 h8 h9 hdd hg hs hr=>
  ⟨_,H3,bP c (.i .i64 e) (.inr rfl) hdd h8 h9,hg,λlg=>⟨c,e,f,rfl,hs,hr⟩⟩
 refine zG tyR λK hK=>?_;apply hK.out;refine R1.gen (λA1 H1=>Gr H H1/\H.nx<H1.nx/\H1.get H.nx=some (.arr [a,b] 26 0 0)/\eQ A1.tm 0 2 (k) (w) (jz A1 B L (fM A1 H.nx (A1.nt=49/\A1.dfr=[])))) ⟨(Fr.refl _).new _,ba _,aC rfl,zL⟩ ?_;rintro A1 H1 ⟨g1,m1,rx,t0,t2,t3,t4,t6,z0,A0⟩;clear h0 h1 h2 h3 h4 tm hK K;have hk:=hk.gr g1;have ha:=ha.gr g1;have hb:=hb.gr g1;have hw:=hw.gr g1;refine zG (qA tyR qO) λK hK=>?_;refine WE.con (qj H1 k a b w o p v hk hL ha hb hB hw hV) λw' H2 g2 hq=>?_;subst hq;obtain⟨rx,m1⟩:=bD g2 m1 rx;have hk:=hk.gr g2;have ha:=ha.gr g2;have hb:=hb.gr g2;have hw:=hw.gr g2;have g2:=g1.gr g2;clear g1;have F1:∀H:Hp,iR H (.o .nilS) []:=λH=>(gh.nil (R:=FnR) (sz:=1) (e:=0) (X:=λ_=>False) (H:=H)).slr;replace F1:=hd F1;by_cases Y0:gJ o p v=0
 case neg=>have ce:(gJ o p v==0)=false:=aF Y0;have hR:qI o p v B L [] (gJ o p v):=.inl ⟨Y0,rfl,rfl⟩;replace hR:=hd hR;replace Y0:=hd Y0;refine zK tyR ?_;exact fin.out (.o .nilS) _ [] _ _ qp qp qe g2 (F1.out _) hR.out
 have ce:(gJ o p v==0)=true:=by rw[Y0];rfl
 obtain⟨hC,hRl,Z1,hcp,hrg⟩:=zh Y0;obtain⟨ls,rfl,_,_,R5,_⟩:=qR hcp;have E0:=zR Y0 (L0 ls rfl);have R7:∀y∈p.1,aP (bX (some ls) y.2.2.1).1 (bX (some ls) y.2.2.1).2=0:=λy hy=>L0 ls rfl _ (xA (zr R5 y hy));have hC64:p.1.length<=64:=hC;have l8:=hL ls rfl;have L3:=Y0;clear hRl Z1 hcp hrg R5 hB hV hL L0 hC;replace L3:=hd L3;replace E0:=hd E0;replace R7:=hd R7;replace l8:=hd l8;by_cases hB0:B<0
 ·have hR:qI (some ls) p v B L [] 8:=.inr (.inl ⟨L3.out,.inl hB0,rfl,rfl⟩);replace hR:=hd hR;refine zK tyR ?_;exact fin.out (.o .nilS) _ [] _ _ qp qp qe g2 (F1.out _) hR.out
 by_cases hB3:3<B
 ·have hR:qI (some ls) p v B L [] 8:=.inr (.inl ⟨L3.out,.inr (.inl hB3),rfl,rfl⟩);replace hR:=hd hR;refine zK tyR ?_;exact fin.out (.o .nilS) _ [] _ _ qp qp qe g2 (F1.out _) hR.out
 by_cases hL0:L<1
 ·have hR:qI (some ls) p v B L [] 8:=.inr (.inl ⟨L3.out,.inr (.inr (.inl hL0)),rfl,rfl⟩);replace hR:=hd hR;refine zK tyR ?_;exact fin.out (.o .nilS) _ [] _ _ qp qp qe g2 (F1.out _) hR.out
 by_cases hL3:100<L
 ·have hR:qI (some ls) p v B L [] 8:=.inr (.inl ⟨L3.out,.inr (.inr (.inr hL3)),rfl,rfl⟩);replace hR:=hd hR;refine zK tyR ?_;exact fin.out (.o .nilS) _ [] _ _ qp qp qe g2 (F1.out _) hR.out
 obtain⟨n,rfl⟩:=jL (Int.not_lt.1 hB0);obtain⟨l,rfl⟩:=jL (show 0<=L by omega);have hn3:n<=3:=aa;have hl3:l<=100:=aa;have hq:∀found e fs,xf v p.2 (kF (ldC ls p.1) v) n l found->(e,fs)=(if found=[]then(4,[])else if(l:Int)<found.length then(3,[])else(0,found))->qI (some ls) p v (n:Int) (l:Int) fs e:=λfound e fs h1 h2=>
  .inr (.inr ⟨L3.out,⟨aa,aa⟩,⟨aa,aa⟩,ls,rfl,found,h1,h2⟩)
 replace hq:=hd hq;refine zK tyR ?_;refine zG (qA tyR yd) λK hK=>?_;refine WE.con (vz H2 k a b w ls p.1 p.2 v n l hk l8.out ha hb hw hC64 R7.out E0.out hn3 hl3) λw' H3 g3⟨F',r',found',N4,hF,hP⟩=>?_;subst N4;have flen:=hF.len;have flt:=hF.lt;have g3:=g2.gr g3;replace hP:=hd hP;cases found' with
 |nil=>have hFe:=hF.abe;subst hFe;have hR:=hq.out [] 4 [] hP.out (ad rfl).symm;replace hR:=hd hR;replace hF:=hd hF;have I6:((((([]:List (List Fx)).length:Nat):Int))==0)=true:=rfl;refine zK tyR ?_;exact fin.out (.o .nilS) _ [] _ _ qp qp qe g3 (F1.out _) hR.out
 |cons f fs=>
  have hs:=hF.acx;replace hF:=hd hF;replace hs:=hd hs;have I6:((((f::fs).length:Nat):Int)==0)=false:=aF (by rw[List.length_cons];omega);by_cases hlm:(l:Int)<((f::fs).length:Nat)
  ·have hR:=hq.out (f::fs) 3 [] hP.out (by rw[ab (λh=>by cases h),ad hlm]);replace hR:=hd hR;generalize(f::fs).length=nn at flen I6 hlm
   refine zK tyR ?_;exact fin.out (.o .nilS) _ [] _ _ qp qp qe g3 (F1.out _) hR.out
  have hR:=hq.out (f::fs) 0 (f::fs) hP.out (by rw[ab (λh=>by cases h),ab hlm]);replace hR:=hd hR;generalize(f::fs).length=nn at flen I6 hlm
  refine zK tyR ?_;exact fin.out F' _ (f::fs) _ _ qp qp qe g3 hs.out hR.out
def aaF:ao prog 129=true:=ae
def Yc:ao prog 74=true:=ae
def hasB(x:Int):List Int->Bool
 |[]=>false
 |y::l=>if y=x then true else hasB x l
def BA{x:Int}:∀{l:List Int},hasB x l=true↔x∈l
 |[]=>⟨λh=>(by cases h),λh=>absurd h List.not_mem_nil⟩
 |y::l=>by
  rw[hasB,List.mem_cons];by_cases h:y=x
  ·rw[ad h];exact⟨λ_=>.inl h.symm,λ_=>rfl⟩
  rw[ab h,BA];exact⟨.inr,λhh=>hh.resolve_left λe=>h e.symm⟩
def YA(H:Hp)(u:AC)(x:Int)(l:List Int)(hu:SlI H u l)(hL:l.length<=4611686018427387904):
  Con E2 129 [.one u,.one (.i .i64 x)] H (λ_=>False) λr _=>r=.one (.b (hasB x l)):=by
 refine Con.lT (λH=>SlI H u l) hu λH hu=>?_;refine C1.fD 18 [.tmp 4] Tryz.func129 λtm h0 h1=>?_;have fin:=CW E2 H 4 (hasB x l);generalize C0:hasB x l=r0 at fin;have l1:=hu.len;have l2:=hu.lt;refine zW tyR ?_;refine R1.dL λK k1 k2 k3 k4=>?_;refine R1.loop (λm A H2=>∃i:Nat,m=l.length-i/\i<=l.length/\H2=H/\hasB x (l.drop i)=r0/\slot A.tm 0=.one (u)/\dm A x (fu A i (A.nt=18/\A.dfr=[]))) ?_ l.length ⟨0,rfl,Nat.zero_le _,rfl,C0,zL⟩;clear h0 h1 tm;rintro m A H2 ⟨i,rfl,U3,rfl,hr,t0,t1,t5,z0,A0⟩;refine zW tyR ?_;refine zI tyR (λhc=>?_) (λhc=>?_)
 ·have B0:i<l.length:=aa;have ex:=aA B0;have M0:=List.drop_eq_getElem_cons B0;have Y1:=cK B0;have D0:=bW B0;generalize l[i]=y at ex M0 Y1 D0;have X1:=bB i;obtain⟨id,g,off,cells,rfl,hid,W0,J0⟩:=hu.open aa;obtain⟨e1,e2⟩:=J0 i y ex;rw[M0,hasB]at hr;clear J0;refine zW tyR ?_;refine R1.dL λK2 q1 q2 q3 q4=>?_;by_cases hq:y=x
  ·have ce:=beq_iff_eq.2 hq;rw[ad hq]at hr;replace hq:=hd hq;replace hr:=hd hr;refine zW (qA tyR (ixC B0)) ?_;apply q4.out;apply k4.out;exact fin (true) _ _ qp qe (Fr.refl _) (hr.out)
  have ce:(y==x)=false:=aF hq;rw[ab hq]at hr;replace hq:=hd hq;refine zW (qA tyR (ixC B0)) ?_;apply q1.out;refine zW tyR ?_;exact⟨l.length-(i+1),aa,i+1,rfl,B0,rfl,hr,zL⟩
 have U0:i=l.length:=aa;refine zW tyR ?_;apply k2.out;refine zW tyR ?_;rw[U0,ct,hasB]at hr;exact fin (false) _ _ qp qe (Fr.refl _) (hr)
def nR(x:Int):List Rl->Bool
 |[]=>false
 |r::l=>if hasB x r.2=true then true else nR x l
def xN{x:Int}:∀{l:List Rl},nR x l=true↔∃r∈l,x∈r.2
 |[]=>⟨λh=>(by cases h),λ⟨_,h,_⟩=>absurd h List.not_mem_nil⟩
 |r::l=>by
  rw[nR];by_cases h:hasB x r.2=true
  ·rw[ad h];exact⟨λ_=>⟨r,aT ..,BA.1 h⟩,λ_=>rfl⟩
  rw[ab h,xN];constructor
  ·rintro⟨s,hs,hm⟩;exact⟨s,aR _ hs,hm⟩
  rintro⟨s,hs,hm⟩;rcases List.mem_cons.1 hs with rfl|hs
  ·exact absurd (BA.2 hm) h
  exact⟨s,hs,hm⟩
def Xu(H:Hp)(a b:AC)(x:Int)(lr:List Rl)(hb:ei H b lr)(ha:ltV (.one a) H.nx)(hL:lr.length<=1000000)(hP:∀r∈lr,r.2.length<=1000000):
  Con E2 74 [.agg [a,b],.one (.i .i64 x)] H (λ_=>False) λr _=>r=.one (.b (nR x lr)):=by
 refine Con.qw (λH=>ei H b lr) hb (λH=>ltV (.one a) H.nx) ha λH hb ha=>?_;refine C1.fD 21 [.tmp 4] Tryz.func74 λtm h0 h1=>?_;have fin:=CW E2 H 4 (nR x lr);generalize C0:nR x lr=r0 at fin;refine zG tyR λK hK=>?_;apply hK.out;refine R1.gen (λA1 H1=>Gr H H1/\H.nx<H1.nx/\H1.get H.nx=some (.arr [a,b] 26 0 0)/\dm A1 x (fb A1 H.nx (A1.nt=21/\A1.dfr=[]))) ⟨(Fr.refl _).new _,ba _,aC rfl,zL⟩ ?_;rintro A1 H1 ⟨g1,m1,rx,t1,t2,z0,A0⟩;clear h0 h1 tm hK K ha;have hb:=hb.gr g1;replace hP:=hd hP;refine zW tyR ?_;refine R1.dL λK k1 k2 k3 k4=>?_;refine R1.loop (λm A H2=>∃i:Nat,m=lr.length-i/\i<=lr.length/\Gr H1 H2/\nR x (lr.drop i)=r0/\dm A x (fb A H.nx (fu A i (A.nt=21/\A.dfr=[])))) ?_ lr.length ⟨0,rfl,Nat.zero_le _,Fr.refl _,C0,zL⟩;clear t1 t2 z0 A0 A1;rintro m A H2 ⟨i,rfl,U3,g2,hr,t1,t2,t5,z0,A0⟩;obtain⟨rx2,m2⟩:=bD g2 m1 rx;have Z6:=hb.gr g2;have l1:=Z6.len;have l2:=Z6.lt;refine zW tyR ?_;refine zI tyR (λhc=>?_) (λhc=>?_)
 ·have B0:i<lr.length:=aa;have ex:=aA B0;have M0:=List.drop_eq_getElem_cons B0;have Y1:=cK B0;have D0:=bW B0;generalize lr[i]=y at ex M0 Y1 D0;have X1:=bB i;obtain⟨id,g,off,cells,rfl,hid,W0,J0⟩:=Z6.open aa;obtain⟨u,hu,y1,y2,_,_,_,_⟩:=J0 i y ex;have B8:=hP.out y D0;rw[M0,nR]at hr;clear J0;refine zW tyR ?_;refine R1.dL λK2 q1 q2 q3 q4=>?_;refine zG (zDd tyR (ixC B0) aaF) λK hK=>?_;refine WE.con (YA H2 u x y.2 hu aa) λw' H3 g3 hq=>?_;subst hq;have g23:=g2.gr g3;cases hq:hasB x y.2 with
  |true=>rw[ad hq]at hr;replace hq:=hd hq;replace hr:=hd hr;refine zK tyR ?_;apply q4.out;apply k4.out;exact fin (true) _ _ qp qe (g1.gr g23) (hr.out)
  |false=>rw[ab (by rw[hq];decide)]at hr;replace hq:=hd hq;refine zK tyR ?_;apply q1.out;refine zW tyR ?_;exact⟨lr.length-(i+1),aa,i+1,rfl,B0,g23,hr,zL⟩
 have U0:i=lr.length:=aa;refine zW tyR ?_;apply k2.out;refine zW tyR ?_;rw[U0,ct,nR]at hr;exact fin (false) _ _ qp qe (g1.gr g2) (hr)
def xi:ao prog 78=true:=ae
def aaG:ao prog 167=true:=ae
def ue(H:Hp)(v w:AC)(a b:List Fx)(hv:SlF H v a)(hw:SlF H w b)(ha:a.length<=4611686018427387904):
  Con E2 78 [.one v,.one w] H (λ_=>False) λr _=>r=.one (.b (cm a b)):=by
 refine Con.qw (λH=>SlF H v a) hv (λH=>SlF H w b) hw λH hv hw=>?_;refine C1.fD 67 [.tmp 4] Tryz.func78 λtm h0 h1=>?_;have fin:=CW E2 H 4 (cm a b);generalize C0:cm a b=r0 at fin;have l1:=hv.len;have l2:=hv.lt;have l3:=hw.len;have l4:=hw.lt;refine zW tyR ?_;refine R1.dL λK k1 k2 k3 k4=>?_;refine R1.loop (λm A H2=>∃i:Nat,m=a.length-i/\i<=a.length/\i<=b.length/\H2=H/\cm (a.drop i) (b.drop i)=r0/\eQ A.tm 0 1 (v) (w) (fu A i (A.nt=67/\A.dfr=[]))) ?_ a.length ⟨0,rfl,Nat.zero_le _,Nat.zero_le _,rfl,C0,zL⟩;clear h0 h1 tm;rintro m A H2 ⟨i,rfl,hia,hib,rfl,hr,t0,t1,t5,z0,A0⟩;by_cases c1:(i:Int)<(a.length:Int)
 ·by_cases c2:(i:Int)<(b.length:Int)
  ·have hla:i<a.length:=aa;have hlb:i<b.length:=aa;have ea:=aA hla;have eb:=aA hlb;have da:=List.drop_eq_getElem_cons hla;have db:=List.drop_eq_getElem_cons hlb;generalize a[i]=x at ea da;generalize b[i]=y at eb db;obtain⟨id,g,off,cells,rfl,hid,W0,J0⟩:=hv.open aa;obtain⟨id',g',off',cells',rfl,U4,hgr',N5⟩:=hw.open aa;have hx:=J0 i x ea;have hy:=N5 i y eb;have x0:=hx.f0;have x2:=hx.f2;have y0:=hy.f0;have y2:=hy.f2;have x3:=hx.le1;have x4:=hx.le3;have y3:=hy.le1;have y4:=hy.le3;rw[da,db,cm]at hr;have X1:=bB i;clear J0 N5 hx hy ea eb da db;refine zW tyR ?_;refine R1.dL λK2 q1 q2 q3 q4=>?_;by_cases d1:x.1=y.1
   ·have ce1:=beq_iff_eq.2 d1;rw[ab (λh=>h d1)]at hr;replace d1:=hd d1;by_cases d2:x.2.2.1=y.2.2.1
    ·have ce2:=beq_iff_eq.2 d2;rw[ab (λh=>h d2)]at hr;replace d2:=hd d2;refine zW (zDd tyR (ixC hla) (ixC hlb)) ?_;apply q1.out;refine zW tyR ?_;exact⟨a.length-(i+1),aa,i+1,rfl,hla,hlb,rfl,hr,zL⟩
    have ce2:(x.2.2.1==y.2.2.1)=false:=aF d2;rw[ad d2]at hr;replace d2:=hd d2;replace hr:=hd hr;refine zW (zDd tyR (ixC hla) (ixC hlb)) ?_;apply q4.out;apply k4.out;exact fin (decide (x.2.2.1<y.2.2.1)) _ _ qp qe (Fr.refl _) (hr.out)
   have ce1:(x.1==y.1)=false:=aF d1;rw[ad d1]at hr;replace d1:=hd d1;replace hr:=hd hr;refine zW (zDd tyR (ixC hla) (ixC hlb)) ?_;apply q4.out;apply k4.out;exact fin (decide (x.1<y.1)) _ _ qp qe (Fr.refl _) (hr.out)
  have U0:i=b.length:=aa;have e2:b.drop i=[]:=by rw[U0,ct]
  have hla:i<a.length:=aa;rw[e2,List.drop_eq_getElem_cons hla,cm]at hr;have cd:decide ((a.length:Int)<(b.length:Int))=false:=bJ aa;replace U0:=hd U0;replace hr:=hd hr;clear e2;refine zW tyR ?_;apply k2.out;refine zW tyR ?_;exact fin (false) _ _ qp qe (Fr.refl _) (hr.out)
 have U0:i=a.length:=aa;have e1:a.drop i=[]:=by rw[U0,ct]
 rw[e1]at hr;have O4:decide ((a.length:Int)<(b.length:Int))=r0:=by
  cases hb:b.drop i with
  |nil=>have:=congrArg List.length hb;rw[iW,List.length_nil]at this;rw[hb,cm]at hr;rw[<-hr];exact bJ aa
  |cons y l=>have:=congrArg List.length hb;rw[iW,List.length_cons]at this;rw[hb,cm]at hr;rw[<-hr];exact bp aa
 replace U0:=hd U0;replace O4:=hd O4;clear e1 hr;refine zW tyR ?_;apply k2.out;refine zW tyR ?_;exact fin (decide ((a.length:Int)<(b.length:Int))) _ _ qp qe (Fr.refl _) (O4.out)
def Zy(H:Hp)(v:AC)(l:List Fx)(x:Fx)(hv:SlF H v l)(hL:l.length<=1000000):
  Con E2 167 [.one v,.agg [.i .i64 x.1,.i .i64 x.2.1,.i .i64 x.2.2.1,.i .i64 x.2.2.2]] H (λ_=>False) λr H'=>∃c q,r=.one c/\lk H' c (fY l x) q/\∀i,q=some i->H.nx<=i:=by
 refine Con.BB (λH=>SlF H v l) hv λH e hv=>?_;rw[<-e];clear e;refine C1.fD 44 [.tmp 4] Tryz.func167 λtm h0 h1=>?_;have fin:Hd (∀(c:AC)(q:Option Nat)(A:ag)(H3:Hp),slot A.tm 4=.one c->A.dfr=[]->Gr H H3->lk H3 c (fY l x) q->(∀i,q=some i->H.nx<=i) ->
   ∃w H4,aK E2 [.tmp 4] (.ret,A,H3)=.ok [(w,H4)]/\Gr H H4/\∀lg:List Nat,∃c q,w=.one c/\lk ⟨H4.t,H4.nx,lg⟩ c (fY l x) q/\∀i,q=some i->H.nx<=i):=λc q A H3 h4 hdd hg hs hq=>
  ⟨_,H3,aw c (.inr rfl) hdd h4,hg,λlg=>⟨c,q,rfl,hs,hq⟩⟩
 obtain⟨zz,hz,Q1⟩:=xV;replace hz:=hd hz;replace Q1:=hd Q1;refine zG tyR λK hK=>?_;apply hK.out;refine R1.gen (λA1 H1=>Gr H H1/\H.nx<H1.nx/\H1.get H.nx=some (.arr [.i .i64 x.1,.i .i64 x.2.1,.i .i64 x.2.2.1,.i .i64 x.2.2.2] 80 0 0)/\nu A1 0 3 (v) (.o (.ptr H.nx 0 0 4)) 44 []) ⟨(Fr.refl _).new _,ba _,aC rfl,zL⟩ ?_;rintro A1 H1 ⟨g1,m1,rx,t0,t3,z0,A0⟩;clear h0 h1 tm hK K;have hv:=hv.gr g1;refine zW tyR ?_;refine R1.dL λK k1 k2 k3 k4=>?_;refine R1.loop (λm A H2=>∃(i:Nat)(out:List Fx)(o:AC)(dn:Bool)(q:Option Nat),m=l.length-i/\i<=l.length/\out.length<=2*i+1/\Gr H1 H2/\lk H2 o out q/\(∀k,q=some k->H1.nx<=k)/\out++(if dn=true then l.drop i else fY (l.drop i) x)=fY l x/\LC A.tm 0 3 5 6 (v) (.o (.ptr H.nx 0 0 4)) (o) (.b dn) (gU A i (A.nt=44/\A.dfr=[]))) ?_ l.length
  ⟨0,[],.o .nilS,false,none,rfl,Nat.zero_le _,Nat.zero_le _,Fr.refl _,.inl ⟨rfl,rfl,rfl,rfl⟩,λ_ h=>(by cases h),rfl,zL⟩
 clear t0 t3 z0 A0 A1;rintro m A H2 ⟨i,out,o,dn,q,rfl,U3,hol,g2,G0,hq,hr,t0,t3,t5,t6,t7,z0,A0⟩;obtain⟨rx2,m2⟩:=bD g2 m1 rx;have G5:=hv.gr g2;have l1:=G5.len;have l2:=G5.lt;replace G0:=hd G0;replace hq:=hd hq;replace hr:=hd hr;replace fin:=hd fin;have pushX:∀(H:Hp)(o:AC)(out:List Fx)(q:Option Nat)(y:Fx),lk H o out q->out.length<=4000000->ltV (.one o) (H.new (.arr [.i .i64 y.1,.i .i64 y.2.1,.i .i64 y.2.2.1,.i .i64 y.2.2.2] 80 0 0)).nx/\∃o' H' q',bM prog (H.new (.arr [.i .i64 y.1,.i .i64 y.2.1,.i .i64 y.2.2.1,.i .i64 y.2.2.2] 80 0 0)) 30 (.one o) (.one (.o (.sl H.nx 0 0 1 4)))=.val (.one o') H'/\lk H' o' (out++[y]) (some q')/\Fr (λi=>q=some i) H H'/\(q=some q'\/H.nx<=q'):=λH o out q y G0 hol=>by obtain⟨a1,v6,H6,r6,a2,a3,a4,a5⟩:=gA jb uk hz.out Q1.out aU G0 [.i .i64 y.1,.i .i64 y.2.1,.i .i64 y.2.2.1,.i .i64 y.2.2.2] rfl aa;refine⟨a1,v6,H6,r6,a2,?_,a4,a5⟩;show dA _ _ _ _ _ _ _;rw[aI,iX];exact a3
 replace pushX:=hd pushX;refine zW tyR ?_;refine zI tyR (λhc=>?_) (λhc=>?_)
 ·have B0:i<l.length:=aa;have ex:=aA B0;have M0:=List.drop_eq_getElem_cons B0;have Y1:=cK B0;have D0:=bW B0;generalize l[i]=y at ex M0 Y1 D0;have X1:=bB i;obtain⟨id,g,off,cells,rfl,hid,W0,J0⟩:=G5.open aa;have hy:=J0 i y ex;have y1:=hy.all;have y2:=hy.le;have y3:=hy.f0;have y4:=hy.le1;rw[fxC]at y1;rw[M0]at hr;clear J0 hy M0 Y1 D0;refine zW tyR ?_;refine R1.dL λK2 q1 q2 q3 q4=>?_;clear y1 y2;refine R1.tV (λB H3=>∃(out':List Fx)(o':AC)(dn':Bool)(q':Option Nat),out'.length<=2*i+2/\Gr H1 H3/\lk H3 o' out' q'/\(∀k,q'=some k->H1.nx<=k)/\out'++y::(if dn'=true then l.drop (i+1)else fY (l.drop (i+1)) x)=fY l x/\LC B.tm 0 3 5 6 (.o (.sl id g off l.length 4)) (.o (.ptr H.nx 0 0 4)) (o') (.b dn') (gU B i (B.nt=44/\B.dfr=[]))) (λK4 w1 w2 w3=>?_) ?_
  ·cases dn with
   |true=>rw[ad rfl]at hr;replace hr:=hd hr;refine zW tyR ?_;exact w1.out _ _ ⟨out,o,true,q,aa,g2,G0.out,hq.out,by rw[ad rfl];exact hr.out,zL⟩
   |false=>
    rw[ab aU,fY]at hr;by_cases d:x.1<y.1
    ·rw[ad d]at hr;obtain⟨V7,o5,H5,q5,B1,l_,hf5,v_⟩:=pushX.out H2 o out q x G0.out aa;have g5:Gr H1 H5:=g2.then hf5 λk hk=>.inl (hq.out k hk);have L':∀k,some q5=some k->H1.nx<=k:=λk hk=>by
      cases hk
      exact v_.elim (hq.out q5) λh=>aS g2.nx h
     replace hr:=hd hr;replace hf5:=hd hf5;replace l_:=hd l_;replace v_:=hd v_;replace L':=hd L';refine zW (qA tyR (ixC B0)) ?_;refine zG (qA tyR jU) λK hK=>?_;refine⟨V7,?_⟩;refine zK tyR ?_;exact w1.out _ _ ⟨out++[x],o5,true,some q5,by rw[aI,List.length_singleton];omega,g5,l_.out,L'.out,by rw[ad rfl,bL];exact hr.out,zL⟩
    rw[ab d]at hr;replace hr:=hd hr;refine zW (qA tyR (ixC B0)) ?_;exact w1.out _ _ ⟨out,o,false,q,aa,g2,G0.out,hq.out,by rw[ab aU];exact hr.out,zL⟩
  clear t0 t3 t5 t6 t7 z0 A0 A G0 hq hr rx2 m2 G5 l1 l2 hid W0 y3 y4 hol g2;rintro A H3 ⟨out',o',dn',q',hol,g3,G0,hq,hr,t0,t3,t5,t6,t7,z0,A0⟩;obtain⟨id',g',off',cells',he,hid,W0,J0⟩:=(hv.gr g3).open aa;cases he
  have hy:=J0 i y ex;have y1:=hy.all;have y2:=hy.le;rw[fxC]at y1;obtain⟨V7,o5,H5,q5,B1,l_,hf5,v_⟩:=pushX.out H3 o' out' q' y G0 aa;have g5:Gr H1 H5:=g3.then hf5 λk hk=>.inl (hq k hk);have L':∀k,some q5=some k->H1.nx<=k:=λk hk=>by
   cases hk
   exact v_.elim (hq q5) λh=>aS g3.nx h
  clear J0 hy ex;replace hr:=hd hr;replace hq:=hd hq;replace G0:=hd G0;replace hf5:=hd hf5;replace l_:=hd l_;replace v_:=hd v_;replace L':=hd L';refine zG (zDd tyR (ixC B0) jU) λK hK=>?_;refine⟨V7,?_⟩;refine zK tyR ?_;apply q1.out;refine zW tyR ?_;exact⟨l.length-(i+1),aa,i+1,out'++[y],o5,dn',some q5,rfl,B0,by rw[aI,List.length_singleton];omega,g5,l_.out,L'.out,by rw[bL];exact hr.out,zL⟩
 have U0:i=l.length:=aa;subst U0;rw[ct]at hr;refine zW tyR ?_;apply k2.out;cases dn with
 |true=>rw[ad rfl,List.append_nil]at hr;refine zW tyR ?_;exact fin.out o q _ _ qp qe (g1.gr g2) (by rw[<-hr];exact G0.out) λk hk=>aS (mY m1) (hq.out k hk)
 |false=>
  rw[ab aU,fY]at hr;obtain⟨V7,o5,H5,q5,B1,l_,hf5,v_⟩:=pushX.out H2 o out q x G0.out aa;have g5:Gr H1 H5:=g2.then hf5 λk hk=>.inl (hq.out k hk);have L':∀k,some q5=some k->H.nx<=k:=λk hk=>by
   cases hk
   exact v_.elim (λh=>aS (mY m1) (hq.out q5 h)) λh=>aS (mY m2) h
  rw[hr]at l_;replace hf5:=hd hf5;replace l_:=hd l_;replace v_:=hd v_;replace L':=hd L';refine zW tyR ?_;refine zG (qA tyR jU) λK hK=>?_;refine⟨V7,?_⟩;refine zK tyR ?_;exact fin.out o5 (some q5) _ _ qp qe (g1.gr g5) l_.out L'.out
variable{v:List Int}{lr:List Rl}{K KT:Int->Int->Int}
def Di(v:List Int)(KT:Int->Int->Int)(now:List Int):List Rl->List Fx->Int->Option (List Fx×Int)
 |[],f,t=>some (f,t)
 |r::l,f,t=>if bN now 0 r.2=v.getD r.1.toNat 0 then Di v KT now l f t else if KT r.1 (bN now 0 r.2)=0 then none else
  Di v KT now l (fY f (r.1,v.getD r.1.toNat 0,bN now 0 r.2,KT r.1 (bN now 0 r.2))) (t+jI (KT r.1 (bN now 0 r.2)))
def aau(v:List Int)(lr:List Rl)(K KT:Int->Int->Int):Prop:=∀r∈lr,∀n,n≠v.getD r.1.toNat 0->KT r.1 n=if K r.1 n≠0 then K r.1 n else if 1<=n/\n<=1099511627776 then 5 else 0
def Qk(E0:gI v lr K)(hKT:aau v lr K KT){now:List Int}:∀(l:List Rl)(f:List Fx)(t:Int),(∀r∈l,r∈lr)->Di v KT now l f t=(dX v K now l).map λT=>(T.foldl fY f,t+(cT T:Int))
 |[],f,t,_=>by rw[Di,dX];show _=some (f,t+((0:Nat):Int));rw[Int.ofNat_zero,Int.add_zero]
 |r::l,f,t,hl=>by
  have ih:=λf t=>Qk (now:=now) E0 hKT l f t λr hr=>hl r (aR _ hr);rw[Di,dX];by_cases c1:bN now 0 r.2=v.getD r.1.toNat 0
  ·rw[ad c1,ad c1];exact ih f t
  rw[ab c1,ab c1];generalize bN now 0 r.2=n at c1;have hk:=hKT r (hl r (aT ..)) n c1;by_cases c2:K r.1 n≠0
  ·rw[ad c2]at hk;obtain⟨b1,b2,b3⟩:=E0.kb r.1 n c2;rw[hk,ab c2,ab aa,ih];cases h:dX v K now l with
   |none=>rfl
   |some T=>
    show some (T.foldl fY (fY f (r.1,v.getD r.1.toNat 0,n,K r.1 n)),t+jI (K r.1 n)+(cT T:Int))=some ((_::T).foldl fY f,t+(cT (_::T):Int));rw[List.foldl_cons,cT,ab c2];have:jI (K r.1 n)=1:=by unfold jI;rw[ab b3]
    rw[this,ab b3];congr 2
    omega
  rw[ab c2]at hk;have c2:K r.1 n=0:=fL c2;by_cases c3:1<=n/\n<=1099511627776
  ·rw[ad c3]at hk;rw[hk,ab aU,ab aa,ih];cases h:dX v K now l with
   |none=>rfl
   |some T=>
    show some (T.foldl fY (fY f (r.1,v.getD r.1.toNat 0,n,5)),t+jI 5+(cT T:Int))=some ((_::T).foldl fY f,t+(cT (_::T):Int));rw[List.foldl_cons,cT,ad c2];have:jI 5=2:=rfl;rw[this,ad rfl];congr 2
    omega
  rw[ab c3]at hk;rw[hk,ad rfl,ad aa];rfl
def abu(E0:gI v lr K)(hKT:aau v lr K KT){B:Nat}{F:List Fx}:xK v lr K B F=match Di v KT (aY v F) lr F (F.length:Int)with|some (f,t)=>if t=(B:Int)then some f else none|none=>none:=by
 rw[Qk E0 hKT lr F _ λ_ h=>h];unfold xK;cases dX v K (aY v F) lr with
 |none=>rfl
 |some T=>
  show(if F.length+cT T=B then some (T.foldl fY F)else none)=if(F.length:Int)+(cT T:Int)=(B:Int)then some (T.foldl fY F)else none;by_cases h:F.length+cT T=B
  ·rw[ad h,ad aa]
  rw[ab h,ab aa]
def Wh(l:List Fx)(x:Fx):(fY l x).length=l.length+1:=by have:=(oZ l x).length_eq;rwa [aI,List.length_singleton]at this
theorem tyQ:type_of% (zDm tyR JL Li Bi Bj Bk Bl Bm Bn Bo Bp (zDl ED FH Pa Qg Gq Pg Oa JM rj wb Lj)):=
 zDm tyR JL Li Bi Bj Bk Bl Bm Bn Bo Bp (zDl ED FH Pa Qg Gq Pg Oa JM rj wb Lj)
def ub(H:Hp)(f:AC)(F:List Fx)(q:Option Nat):Prop:=
 (f=.o .nilS/\F=[]/\q=none)\/∃id gen lo cells,q=some id/\f=.o (.sl id gen 0 F.length 4)/\H.get id=some (.arr cells 80 lo gen)/\lo<=gen/\F.length*4<=cells.length/\cells.take (F.length*4)=F.flatMap fxC/\id<H.nx
section
variable{H H':Hp}{f:AC}{F:List Fx}{q:Option Nat}{Y:Nat->Prop}
def ub.fr(h:ub H f F q)(hf:Fr Y H H')(hy:∀i,q=some i->¬Y i):ub H' f F q:=by
 rcases h with h|⟨id,gen,lo,cells,h1,h2,h3,h4,h5,h6,h7⟩
 ·exact .inl h
 exact .inr ⟨id,gen,lo,cells,h1,h2,(hf.get id h7 (hy id h1)).trans h3,h4,h5,h6,ax h7 hf.nx⟩
def ub.slF(h:ub H f F q):SlF H f F:=by
 rcases h with⟨rfl,rfl,_⟩|⟨id,gen,lo,cells,h1,rfl,h3,h4,h5,h6,h7⟩
 ·exact SlF.nil
 exact⟨by rw[<-h6,dM];omega,.inr ⟨id,gen,0,rfl,h7,cells,by rw[h3];exact cH h4 (ai _),aa,by rw[List.drop_zero];exact h6⟩⟩
def ub.rlt{i:Nat}(h:ub H f F (some i)):i<H.nx:=by
 rcases h with⟨_,_,h⟩|⟨id,_,_,_,h1,_,_,_,_,_,h7⟩
 ·cases h
 cases h1;exact h7
def ub.pop{x:Fx}(h:ub H f (F++[x]) q):∃id gen,f=.o (.sl id gen 0 (F.length+1) 4)/\q=some id/\ub H (.o (.sl id gen 0 F.length 4)) F q:=by
 rcases h with⟨_,h,_⟩|⟨id,gen,lo,cells,h1,h2,h3,h4,h5,h6,h7⟩
 ·exact absurd h (by simp)
 rw[aI,List.length_singleton]at h2 h5 h6;refine⟨id,gen,h2,h1,.inr ⟨id,gen,lo,cells,h1,rfl,h3,h4,aa,?_,h7⟩⟩;have:=congrArg (List.take (F.length*4)) h6;rw[List.take_take,iX,wW aa]at this;have hl:(F.flatMap fxC).length=F.length*4:=by
  clear this h2 h5 h6;induction F with
  |nil=>rfl
  |cons y F ih=>rw[List.flatMap_cons,aI,ih,Gx,List.length_cons];omega
 rw[this,tw aa,iy aa]
def ub.push{x:Fx}(h:ub H f F q)(hL:F.length<=1000):ltV (.one f) (H.nx+1)/\∃f' H' q',bM prog (H.new (.arr [.i .i64 x.1,.i .i64 x.2.1,.i .i64 x.2.2.1,.i .i64 x.2.2.2] 80 0 0)) 30 (.one f) (.one (.o (.sl H.nx 0 0 1 4)))=.val (.one f') H'/\ub H' f' (F++[x]) (some q')/\Fr (λi=>q=some i) H H'/\(q=some q'\/H.nx<=q'):=by
 obtain⟨z,hz,Q1⟩:=xV;rcases h with⟨rfl,rfl,rfl⟩|⟨id,gen,lo,cells,rfl,rfl,h3,h4,h5,h6,h7⟩
 ·obtain⟨a1,v6,H6,r6,a2,a3,a4,a5⟩:=gA (P:=prog) (t:=30) (H:=H) (v:=.o .nilS) (n:=0) (cells:=[]) (r:=none) jb uk hz Q1 aU (.inl ⟨rfl,rfl,rfl,rfl⟩) [.i .i64 x.1,.i .i64 x.2.1,.i .i64 x.2.2.1,.i .i64 x.2.2.2] rfl aU;refine⟨a1,v6,H6,r6,a2,?_,a4,a5⟩;rcases a3 with⟨_,h,_⟩|⟨id,lo,gen,e1,e2,e3,e4,e5,e6⟩
  ·cases h
  exact .inr ⟨id,gen,lo,_,e1,e2,e3,e4,mZ e5.symm,rfl,e6⟩
 have g2:(H.new (.arr [.i .i64 x.1,.i .i64 x.2.1,.i .i64 x.2.2.1,.i .i64 x.2.2.2] 80 0 0)).get id=some (.arr cells 80 lo gen):=(((Fr.refl _:Gr H H).new _).get id h7 aE).trans h3;obtain⟨lo',hlo',B1⟩:=AD (P:=prog) (t:=30) (at_:=F.length) (k:=1) (x:=.one (.o (.sl H.nx 0 0 1 4))) (c:=[.i .i64 x.1,.i .i64 x.2.1,.i .i64 x.2.2.1,.i .i64 x.2.2.2]) jb uk hz Q1 aU g2 h4 h5
  (by rw[mo (cells:=[.i .i64 x.1,.i .i64 x.2.1,.i .i64 x.2.2.1,.i .i64 x.2.2.2]) (by rw[aC rfl];rfl) (ai 4)];rfl) aU aa aa
 have hl:(F.flatMap fxC).length=F.length*4:=by rw[<-h6,dM];omega
 refine⟨λi hi=>?_,.o (.sl id (gen+1) 0 (F.length+1) 4),_,id,B1,?_,((Fr.refl H).new _).mod _ (.inr rfl),.inl rfl⟩
 ·rw[List.mem_singleton.1 hi];omega
 refine .inr ⟨id,gen+1,lo',cells.take (F.length*4)++[.i .i64 x.1,.i .i64 x.2.1,.i .i64 x.2.2.1,.i .i64 x.2.2.2],rfl,by rw[aI,List.length_singleton],aq rfl,hlo',?_,?_,tx h7⟩
 ·rw[aI,aI,h6,hl,List.length_singleton];show _<=F.length*4+4;omega
 rw[h6,iy (by rw[aI,aI,hl,List.length_singleton];show F.length*4+4<=_;omega),iX];rfl
end
def SsR(H:Hp)(c:List AC)(x:AC×List Sp):Prop:=c=[x.1]/\oF H x.1 x.2
def LG(H:Hp)(v:AC)(L:List (AC×List Sp)):Prop:=SlR SsR 1 H v L
theorem re{u:AC}:vA [u]=(AV.one u).ids:=by rw[DI,IP,List.append_nil]
theorem Gw:FrR SsR:=λY H H' c x⟨h1,h2⟩hf hi=>by subst h1;rw[re]at hi;exact⟨rfl,SlC.fr h2 hf hi⟩
theorem GQ:LtR SsR:=λH c x⟨h1,h2⟩i hi=>by subst h1;rw[re]at hi;exact pD h2 i hi
theorem LG.gr{H H':Hp}{v:AC}{L:List (AC×List Sp)}(h:LG H v L)(hg:Gr H H'):LG H' v L:=SlR.fI h hg.nx (λi hi=>hg.get i hi aE) λ_ _ h=>⟨h.1,SlC.gr h.2 hg⟩
theorem LG.open{H:Hp}{v:AC}{l:List (AC×List Sp)}(h:LG H v l)(hn:0<l.length):∃id g off cells,v=.o (.sl id g off l.length 1)/\id<H.nx/\rowOf (H.get id) g=some cells/\∀(i:Nat)(x:AC×List Sp),l[i]?=some x->oF H x.1 x.2/\(cells.drop (off+i*1)).headD (.b false)=x.1/\off+i*1+1<=cells.length:=by
 obtain⟨id,g,off,cells,h1,h2,h3,h4⟩:=SlR.open h hn;refine⟨id,g,off,cells,h1,h2,h3,λi x hx=>?_⟩;obtain⟨h5,c,h6,h7,rfl,h8⟩:=h4 i x hx;refine⟨h8,?_,h5⟩;cases hd:cells.drop (off+i*1)with
 |nil=>rw[hd]at h6;cases h6
 |cons a l=>rw[hd]at h6;have:[a]=[x.1]:=h6;cases this;rfl
structure Ug where
 S:Nat
 W:Nat
 N:Nat
 k:AC
 a:AC
 b:AC
 vv:AC
 la:AC
 ls:List Lad
 lc:List Cl
 lr:List Rl
 v:List Int
 L:List (AC×List Sp)
structure abS(z:Ug)(H:Hp):Prop where
 hk:RBk H z.k z.ls
 ha:dD H z.a z.lc
 hb:ei H z.b z.lr
 hv:SlI H z.vv z.v
 hl:LG H z.la z.L
structure UD(z:Ug)(H:Hp):Prop where
 n:(z.S<z.N/\z.W<z.N/\z.S≠z.W)/\z.N<=H.nx
 d:∀H',z.N<=H'.nx->(∀i,i<z.N->i≠z.S->i≠z.W->H'.get i=H.get i)->abS z H'
def XU(z:Ug)(k:Nat):Prop:=k=z.S\/k=z.W\/z.N<=k
section
variable{z:Ug}{H H':Hp}{Y:Nat->Prop}
def UD.fr(h:UD z H)(hf:Fr Y H H')(hy:∀k,Y k->XU z k):UD z H':=
 ⟨⟨h.n.1,aS h.n.2 hf.nx⟩,λH2 n g=>h.d H2 n λi hi h1 h2=>(g i hi h1 h2).trans (hf.get i (ax hi h.n.2) λhh=>(hy i hh).elim h1 λhh=>hh.elim h2 aa)⟩
def UD.now(h:UD z H):abS z H:=h.d H h.n.2 λ_ _ _ _=>rfl
end
def Im(z:Ug)(H:Hp)(ww:AC)(now:List Int):Prop:=∃wq,As H ww now wq/\∀i,wq=some i->i=z.W
theorem Im.fr{z:Ug}{H H':Hp}{ww:AC}{now:List Int}{Y:Nat->Prop}(h:Im z H ww now)(hf:Fr Y H H')(hy:¬Y z.W):Im z H' ww now:=by obtain⟨wq,h1,h2⟩:=h;exact⟨wq,dA.fr h1 hf λi hi hh=>hy (by rw[<-h2 i hi];exact hh),h2⟩
theorem Im.slI{z:Ug}{H:Hp}{ww:AC}{now:List Int}(h:Im z H ww now):SlI H ww now:=by obtain⟨wq,h1,_⟩:=h;exact As.slI h1
theorem Im.at{z:Ug}{H:Hp}{ww:AC}{now:List Int}(h:Im z H ww now)(hn:0<now.length):∃wg lo,ww=.o (.sl z.W wg 0 now.length 1)/\z.W<H.nx/\lo<=wg/\H.get z.W=some (.arr (now.map (AC.i .i64)) 3 lo wg):=by
 obtain⟨wq,h1,h2⟩:=h;rcases h1 with⟨_,h,_⟩|⟨id,lo,gen,e1,e2,e3,e4,e5,e6⟩
 ·omega
 have:=h2 id e1;subst this;exact⟨gen,lo,e2,e6,e4,e3⟩
structure US(z:Ug)(B:Nat)(H:Hp)(f fo ww:AC)(now:List Int)(F:List Fx)(found:List (List Fx))(q r:Option Nat):Prop where
 dat:UD z H
 row:H.get z.S=some (.arr [z.k,z.a,z.b,z.vv,ww,f,z.la,.i .i64 (B:Int),fo] 165 0 0)
 w:Im z H ww now
 x:ub H f F q
 qn:∀i,q=some i->z.N<=i
 fo:gh FnR 1 30 (λk=>k<z.N\/q=some k) H fo found r
theorem US.lg{z:Ug}{B:Nat}{H:Hp}{f fo ww:AC}{now:List Int}{F:List Fx}{found:List (List Fx)}{q r:Option Nat}(h:US z B H f fo ww now F found q r)(lg:List Nat):US z B ⟨H.t,H.nx,lg⟩ f fo ww now F found q r:=⟨⟨h.dat.n,h.dat.d⟩,h.row,h.w,h.x,h.qn,⟨h.fo.row,h.fo.own⟩⟩
theorem US.rn{z:Ug}{B:Nat}{H:Hp}{f fo ww:AC}{now:List Int}{F:List Fx}{found:List (List Fx)}{q r:Option Nat}(h:US z B H f fo ww now F found q r):∀i,r=some i->(z.N<=i/\q≠some i)/\i<H.nx:=λi hi=>by obtain⟨a,b⟩:=h.fo.row i hi;exact⟨⟨Nat.not_lt.1 λh=>a (.inl h),λh=>a (.inr h)⟩,b⟩
theorem US.gr{z:Ug}{B:Nat}{H H':Hp}{f fo ww:AC}{now:List Int}{F:List Fx}{found:List (List Fx)}{q r:Option Nat}(h:US z B H f fo ww now F found q r)(hg:Gr H H'):US z B H' f fo ww now F found q r:=by have hS:=h.dat.n;exact⟨h.dat.fr hg λ_ h=>h.elim,(hg.get _ aa aE).trans h.row,h.w.fr hg aE,h.x.fr hg λ_ _=>aE,h.qn,h.fo.gr pt nY hg⟩
theorem Uw{l:List Int}{i:Nat}(h:i<l.length):l[i]?=some (l.getD i 0):=by rw[bt,aA h];rfl
section
variable{z:Ug}{B:Nat}{H H':Hp}{f fo ww:AC}{wg:Nat}{now now':List Int}{F:List Fx}{found:List (List Fx)}{q r:Option Nat}
def US.acw(h:US z B H f fo (.o (.sl z.W wg 0 z.v.length 1)) now F found q r)(hl:now'.length=now.length)(hv:now.length=z.v.length)(h2:z.W<H.nx):US z B (H.mod z.W (.arr (now'.map (AC.i .i64)) 3 wg wg)) f fo (.o (.sl z.W wg 0 z.v.length 1)) now' F found q r:=by have hn:=h.dat.n;have hf:Fr (λk=>k=z.W) H (H.mod z.W (.arr (now'.map (AC.i .i64)) 3 wg wg)):=(Fr.refl _).mod _ (.inr rfl);exact⟨h.dat.fr hf λk hk=>.inr (.inl hk),(hf.get _ aa hn.1.2.2).trans h.row,⟨some z.W,.inr ⟨z.W,wg,wg,rfl,by rw[hl,hv],aq rfl,ai _,by rw[cP,cr],h2⟩,λi hi=>(eh hi).symm⟩,h.x.fr hf λi hi(e:i=z.W)=>by have:=h.qn i hi;omega,h.qn,h.fo.fr pt nY hf λi(hi:i=z.W)=>.inl (.inl aa)⟩
def US.acv{f':AC}{F':List Fx}{q':Option Nat}(h:US z B H f fo ww now F found q r)(hf:Fr (λi=>q=some i) H H')(hx:ub H' f' F' q')(hq:∀i,q'=some i->q=some i\/H.nx<=i):US z B (H'.mod z.S (.arr [z.k,z.a,z.b,z.vv,ww,f',z.la,.i .i64 (B:Int),fo] 165 0 0)) f' fo ww now F' found q' r:=by
 have hn:=h.dat.n;have hs:Fr (λk=>k=z.S) H' (H'.mod z.S (.arr [z.k,z.a,z.b,z.vv,ww,f',z.la,.i .i64 (B:Int),fo] 165 0 0)):=(Fr.refl _).mod _ (.inr rfl);have hqn:∀i,q'=some i->z.N<=i:=λi hi=>(hq i hi).elim (h.qn i) λh=>aS hn.2 h;have h1:=(h.fo.abT nY).less (X':=λk=>k<z.N\/q'=some k\/q=some k) λi hi=>hi.elim (λh=>.inl (.inl h)) λhi=>hi.elim (λhi=>(hq i hi).imp .inr id) λhi=>.inl (.inr hi);have h2:=(h1.fr pt nY hf λi hi=>.inl (.inr (.inr hi))).less (X':=λk=>k<z.N\/q'=some k) λi hi=>hi.imp id .inl;exact⟨(h.dat.fr hf λk hk=>.inr (.inr (h.qn k hk))).fr hs λk hk=>.inl hk,aq rfl,
  (h.w.fr hf λhh=>by have:=h.qn _ hh;omega).fr hs λ(hh:z.W=z.S)=>hn.1.2.2 hh.symm,
  hx.fr hs λi hi(e:i=z.S)=>by have:=hqn i hi;omega,hqn,h2.fr pt nY hs λi(hi:i=z.S)=>.inl (.inl aa)⟩
end
theorem TD:ao prog 133=true:=ae
theorem TC:ao prog 164=true:=ae
theorem TB:ao prog 165=true:=ae
theorem QH:ao prog 166=true:=ae
def KTz(z:Ug)(i n:Int):Int:=yz (bX (some z.ls) (gX z.lc i)) z.lr i (z.v.getD i.toNat 0) n
def KFz(z:Ug):Int->Int->Int:=kF (ldC z.ls z.lc) z.v
theorem Zt(c:Int):1<=jI c/\jI c<=2:=by unfold jI;split<;>decide
theorem aba{z:Ug}(E0:mu (ldC z.ls z.lc) z.lr z.v):aau z.v z.lr (KFz z) (KTz z):=λr hr n hn=>by
 have hx:=E0.rp.tr r hr;have hk:=UZ (ls:=z.ls) (lc:=z.lc) E0 (x:=(r.1,z.v.getD r.1.toNat 0,n,0)) hx rfl;have e:UY z.ls z.lc z.lr (r.1,z.v.getD r.1.toNat 0,n,0)=KTz z r.1 n:=rfl;rw[e]at hk;rw[hk];show(if kF (ldC z.ls z.lc) z.v r.1 n≠0 then _ else _)=_;by_cases c:kF (ldC z.ls z.lc) z.v r.1 n≠0
 ·rw[ad c];exact(ad c).symm
 rw[ab c];refine Eq.trans ?_ (ab c).symm;have h1:0<=fv 0 z.lr r.1:=OV.2 ⟨r,hr,rfl⟩;by_cases d:1<=n/\n<=1099511627776
 ·rw[ad d];exact ad ⟨h1,λe=>hn e.symm,d⟩
 rw[ab d];exact ab λh=>d h.2.2
def SmQ(z:Ug)(B:Nat)(f ww:AC)(F:List Fx)(q:Option Nat)(found:List (List Fx))(H':Hp):Prop:=∃fo' r',US z B H' f fo' ww (aY z.v F) F found q r'
theorem Se{z:Ug}(E0:mu (ldC z.ls z.lc) z.lr z.v)(l8:∀x∈z.ls,x.2.length<=1000000)(q_:z.ls.length<=1000000){B:Nat}(H:Hp)(f fo ww:AC)(F:List Fx)(found:List (List Fx))(q r:Option Nat)(hs:US z B H f fo ww (aY z.v F) F found q r)(hF:F.length<=3)(Q8:found.length<=1000000000000):
  Con E2 133 [.one (.o (.ptr z.S 0 0 9)),.one (.i .i64 (F.length:Int))] H (XU z) λw H'=>w=.tup []/\SmQ z B f ww F q (found++(xK z.v z.lr (KFz z) B F).toList) H':=by
 have hW:=abu (K:=KFz z) (KT:=KTz z) E0.rp (aba E0) (B:=B) (F:=F);refine Con.of rfl λlg=>?_;have hs:=hs.lg lg;generalize(⟨H.t,H.nx,lg⟩:Hp)=H at hs |-
 refine C1.fD 106 [] Tryz.func133 λtm h0 h1=>?_;have hN:=hs.dat.n;have hlr:=E0.rp.pl;have hlrn:z.lr.length<=64:=E0.r64;have fin:Hd (∀(e:au)(A:ag)(H3:Hp),(e=.normal\/e=.ret)->A.dfr=[]->Fr (XU z) H H3->SmQ z B f ww F q (found++(xK z.v z.lr (KFz z) B F).toList) H3 ->
   ∃w H4,aK E2 [] (e,A,H3)=.ok [(w,H4)]/\Fr (XU z) H H4/\∀lg:List Nat,w=.tup []/\SmQ z B f ww F q (found++(xK z.v z.lr (KFz z) B F).toList) ⟨H4.t,H4.nx,lg⟩):=λe A H3 he V' hf⟨fo',r',h⟩=>
  ⟨_,H3,cS he V',hf,λlg=>⟨rfl,fo',r',h.lg lg⟩⟩
 have G0:=hs.row;have B_:z.S<H.nx:=aa;have hx:=hs.x.slF;have lx:=hx.lt;obtain⟨zz,hz,Q1⟩:=xV;obtain⟨f0,H1,q0,B1,ho0,g1,j_⟩:=FV (P:=prog) (t:=30) jb uk hz Q1 aU (show SlC H f 4 F.length (F.flatMap fxC)from hx) aa;have ho0:lk H1 f0 F q0:=ho0;clear hz Q1 zz;obtain⟨R,hR⟩:∃R,Di z.v (KTz z) (aY z.v F) z.lr F (F.length:Int)=R:=⟨_,rfl⟩;rw[hR]at hW;replace hR:=hd hR;replace hW:=hd hW;replace ho0:=hd ho0;replace j_:=hd j_;replace hs:=hd hs;replace hx:=hd hx;replace hlr:=hd hlr;refine zW tyQ ?_;refine R1.dL λK k1 k2 k3 k4=>?_;refine R1.loop (λm A H2=>∃(i:Nat)(ff:List Fx)(f0:AC)(q0:Option Nat)(t:Int),m=z.lr.length-i/\i<=z.lr.length/\Gr H H2/\lk H2 f0 ff q0/\(∀k,q0=some k->H.nx<=k)/\ff.length<=3+i/\(0<=t/\t<=3+2*i)/\Di z.v (KTz z) (aY z.v F) (z.lr.drop i) ff t=R/\nh A z.S (dm A t (slot A.tm 4=.one (f0)/\fu A i (A.nt=106/\A.dfr=[])))) ?_ z.lr.length
  ⟨0,F,f0,q0,(F.length:Int),rfl,Nat.zero_le _,g1,ho0.out,j_.out,hF,⟨aa,aa⟩,hR.out,zL⟩
 clear h0 h1 tm B1 g1 G0 B_ lx ho0 j_ k3;rintro m A H2 ⟨i,ff,f0,q0,t,rfl,U3,g2,hrf,j_,hffl,ht,hr,t0,t1,t4,t5,z0,A0⟩;have L1:=hs.out.gr g2;have U5:z.S<H2.nx:=by have:=g2.nx;omega
 have y8:=L1.row;have hD:=L1.dat.now;have hb:=hD.hb;have l1:=hb.len;have l2:=hb.lt;replace hr:=hd hr;replace j_:=hd j_;replace hrf:=hd hrf;replace L1:=hd L1;replace hD:=hd hD;refine zW tyQ ?_;refine zI tyQ (λhc=>?_) (λhc=>?_)
 ·have B0:i<z.lr.length:=aa;have ex:=aA B0;have M0:=List.drop_eq_getElem_cons B0;have Y1:=cK B0;have D0:=bW B0;generalize z.lr[i]=x at ex M0 Y1 D0;have X1:=bB i;have hxt:=E0.rp.tr x D0;have hxp:=E0.rp.pr x D0;have hxl:=hlr.out x D0;obtain⟨id,g,off,cells,hbe,hid,W0,J0⟩:=hb.open aa;obtain⟨u,hu,y1,y2,y3,y4,y5,y6⟩:=J0 i x ex;rw[hbe]at y8;have hr:=hr.out;rw[M0,Di]at hr;clear J0 l1 l2 M0 Y1;replace hbe:=hd hbe;replace hxp:=hd hxp;replace hr:=hd hr;refine zW tyQ ?_;refine R1.dL λK2 q1 q2 q3 q4=>?_;refine zG (qA tyQ (ixC B0)) λK5 V0=>?_;apply V0.out;refine R1.gen (λA3 H3=>Gr H2 H3/\H2.nx<H3.nx/\H3.get H2.nx=some (.arr [.i .i64 x.1,u] 82 0 0)/\nh A3 z.S (dm A3 t (slot A3.tm 4=.one (f0)/\fu A3 i (fM A3 H2.nx (A3.nt=106/\A3.dfr=[]))))) ⟨((Fr.refl _).new _).mod _ (.inl (ai _)),ba _,aq rfl,zL⟩ ?_;clear t0 t1 t4 t5 z0 A0 A V0 K5 y1 y2 y3 y4 y5 y6 hid W0 y8 U5;rintro A H3 ⟨g3,m3,rx,t0,t1,t4,t5,t6,z0,A0⟩;obtain⟨M,hM⟩:=dI H2.nx;rw[<-hM]at m3 rx t6;replace hM:=hd hM;have hu:=hu.gr g3;have s7:=L1.out.gr g3;have g13:=g2.gr g3;have C_:z.S<H3.nx:=by have:=g13.nx;omega
  have w8:=s7.row;have O3:SlI H3 ww (aY z.v F):=s7.w.slI;replace s7:=hd s7;refine zO (qA tyQ TC) λK5 V0=>?_;refine WE.po (KG H3 u ww x.1 x.2 (aY z.v F) hu O3 (λj hj=>by rw[dH];exact hxp.out j hj) aa) λw' H4 g4 hq=>?_;subst hq;generalize hn:bN (aY z.v F) 0 x.2=n at hr;replace hn:=hd hn;have hs4:=s7.out.gr g4;have g14:=g13.gr g4;have hS4:z.S<H4.nx:=by have:=g14.nx;omega
  obtain⟨rx4,m4⟩:=bD g4 m3 rx;clear O3 w8 C_;refine zQ tyQ ?_;apply V0.out;refine R1.lq (λA5=>nh A5 z.S (dm A5 t (slot A5.tm 4=.one (f0)/\fu A5 i (fM A5 M (gU A5 n (A5.nt=106/\A5.dfr=[])))))) zL ?_;clear t0 t1 t4 t5 t6 z0 A0 A V0 K5;rintro A ⟨t0,t1,t4,t5,t6,t7,z0,A0⟩;have K_:=hs4.row;have r_:=hs4.dat.now;obtain⟨idv,gv,offv,cellsv,hve,T4,V4,C7⟩:=r_.hv.open aa;have ev:z.v[x.1.toNat]?=some (z.v.getD x.1.toNat 0):=by rw[bt,aA aa];rfl
  obtain⟨e3,e4⟩:=C7 _ _ ev;rw[hve]at K_;generalize hnv:z.v.getD x.1.toNat 0=nv at hr e3;clear C7 ev;replace hnv:=hd hnv;replace hve:=hd hve;replace hs4:=hd hs4;replace r_:=hd r_;replace hu:=hd hu;by_cases c1:n=nv
  ·have ce:=beq_iff_eq.2 c1;have hr:=hr.out;rw[ad c1]at hr;replace c1:=hd c1;replace hr:=hd hr;refine zW (qA tyQ (ixI hxt.1 hxt.2)) ?_;apply q2.out;refine zW tyQ ?_;exact⟨z.lr.length-(i+1),aa,i+1,ff,f0,q0,t,rfl,B0,g14,dA.fr hrf.out (g3.gr g4) λ_ _=>aE,j_.out,aa,⟨ht.1,aa⟩,hr.out,zL⟩
  have ce:(n==nv)=false:=aF c1;have hr:=hr.out;rw[ab c1]at hr;replace c1:=hd c1;replace hr:=hd hr;have S1:=E0.vl;rw[py]at S1;have hxc:x.1<z.lc.length:=aa;obtain⟨y,ey⟩:∃y,z.lc[x.1.toNat]?=some y:=⟨_,aA aa⟩;have eK:yz (bX (some z.ls) y.2.2.1) z.lr x.1 nv n=KTz z x.1 n:=by unfold KTz;rw[hnv.out];unfold gX;rw[ey];rfl
  replace eK:=hd eK;replace S1:=hd S1;refine zW (qA tyQ (ixI hxt.1 hxt.2)) ?_;refine zO (zDd tyQ (ixI hxt.1 hxt.2) TB) λK5 V0=>?_;refine WE.po (MW H4 z.k z.a z.b z.ls z.lc z.lr x.1 nv n _ r_.out.hk l8 q_ r_.out.ha r_.out.hb aa hxt.1 hxc ey) λw' H5 g5 hq=>?_;rw[eK.out]at hq;subst hq;generalize hkc:KTz z x.1 n=kc at hr;replace hkc:=hd hkc;have k8:=hs4.out.gr g5;have g15:=g14.gr g5;obtain⟨rx5,m5⟩:=bD g5 m4 rx4;clear K_ rx4 m4 hS4 T4 V4 e3 e4;refine zQ tyQ ?_;apply V0.out;refine R1.lq (λA5=>nh A5 z.S (dm A5 t (slot A5.tm 4=.one (f0)/\fu A5 i (fM A5 M (gU A5 n (lK A5 kc (A5.nt=106/\A5.dfr=[]))))))) zL ?_;clear t0 t1 t4 t5 t6 t7 z0 A0 A V0 K5;rintro A ⟨t0,t1,t4,t5,t6,t7,t8,z0,A0⟩;by_cases c2:kc=0
  ·have ce2:=beq_iff_eq.2 c2;have hr:=hr.out;rw[ad c2]at hr;have hW:=hW.out;rw[<-hr]at hW;replace c2:=hd c2;replace hr:=hd hr;refine zW tyQ ?_;apply q4.out;apply k4.out;exact fin.out _ _ _ (.inr rfl) qe (Fr.none g15) ⟨fo,r,by rw[hW];show US z B H5 f fo ww (aY z.v F) F (found++[]) q r;rw[List.append_nil];exact k8⟩
  have ce2:(kc==0)=false:=aF c2;have hr:=hr.out;rw[ab c2]at hr;replace c2:=hd c2;replace hr:=hd hr;have hpb:=Zt kc;have hwt:=cB (t+jI kc);replace k8:=hd k8;refine zW tyQ ?_;refine zG (qA tyQ QH) λK5 V0=>?_;refine WE.con (MX H5 kc) λw' H6 g6 hq=>?_;subst hq;have hs6:=k8.out.gr g6;have g16:=g15.gr g6;have hS6:z.S<H6.nx:=by have:=g16.nx;omega
  obtain⟨rx6,m6⟩:=bD g6 m5 rx5;clear rx5 m5;refine zS tyQ ?_;apply V0.out;refine R1.lq (λA5=>nh A5 z.S (dm A5 (t+jI kc) (slot A5.tm 4=.one (f0)/\fu A5 i (fM A5 M (gU A5 n (lK A5 kc (A5.nt=106/\A5.dfr=[]))))))) zL ?_;clear t0 t1 t4 t5 t6 t7 t8 z0 A0 A V0 K5;rintro A ⟨t0,t1,t4,t5,t6,t7,t8,z0,A0⟩;have E5:=hs6.row;have hD6:=hs6.dat.now;obtain⟨idv,gv,offv,cellsv,hve2,T4,V4,C7⟩:=hD6.hv.open aa;have ev:z.v[x.1.toNat]?=some nv:=by rw[<-hnv.out,bt,aA aa];rfl
  obtain⟨e3,e4⟩:=C7 _ _ ev;rw[hve2]at E5;have hrf6:lk H6 f0 ff q0:=dA.fr hrf.out ((g3.gr g4).gr (g5.gr g6)) λ_ _=>aE;clear C7 ev;replace hve2:=hd hve2;replace hD6:=hd hD6;replace hs6:=hd hs6;replace hrf6:=hd hrf6;refine zO (zDd tyQ (ixI hxt.1 hxt.2) aaG) λK5 V0=>?_;refine WE.po (Zy H6 f0 ff (x.1,nv,n,kc) hrf6.out.slF aa) λw' H7 g7⟨f7,q7,hq,W_,hq7⟩=>?_;subst hq;have g17:=g16.gr g7;have hq8:∀k,q7=some k->H.nx<=k:=λk hk=>aS g16.nx (hq7 k hk);have hnv2:=hnv.out;have hr:=hr.out;replace W_:=hd W_;replace hq7:=hd hq7;replace hq8:=hd hq8;replace hr:=hd hr;replace hnv2:=hd hnv2;refine zQ tyQ ?_;apply V0.out;refine zW tyQ ?_;apply q1.out;refine zW tyQ ?_;exact⟨z.lr.length-(i+1),aa,i+1,fY ff (x.1,nv,n,kc),f7,q7,t+jI kc,rfl,B0,g17,W_.out,hq8.out,by rw[Wh];omega,⟨aa,aa⟩,hr.out,zL⟩
 have U0:i=z.lr.length:=aa;have hr:=hr.out;rw[U0,ct,Di]at hr;have hW:=hW.out;rw[<-hr]at hW;have L1:=L1.out;refine zW tyQ ?_;apply k2.out;by_cases c1:t=(B:Int)
 ·have ce:(t==(B:Int))=true:=beq_iff_eq.2 c1;have R4:xK z.v z.lr (KFz z) B F=some ff:=by rw[hW];exact ad c1
  obtain⟨zz,hz,Q1⟩:=CJ;have hgn:=g2.nx;obtain⟨R6,o9,H9,r9,B1,Q7,j5,P7⟩:=L1.fo.push (P:=prog) (t:=67) pt nY sP vq hz Q1 aU
   (λk hk=>hk.elim (λh=>aa) λh=>by have V6:=L1.x;rw[h]at V6;exact V6.rlt) (c0:=[f0]) (x:=ff) rfl ⟨f0,rfl,hrf.out.slF⟩ (λk hk=>by
    rw[re]at hk;have h3:=j_.out k (dA.vid hrf.out k hk);have hs0:=hs.out;refine⟨λhh=>hh.elim (λh=>aa) λh=>?_,λe=>?_⟩
    ·have V6:=hs0.x;rw[h]at V6;have:=V6.rlt;omega
    have:=(hs0.rn k e.symm).2;omega) aa
  clear hz Q1 zz;have fr9:Fr (XU z) H H9:=(Fr.none g2).then j5 λk hk=>.inr (.inr (.inr (L1.rn k hk).1.1));have hS9:z.S<H9.nx:=by have:=fr9.nx;omega
  have L6:H9.get z.S=some (.arr [z.k,z.a,z.b,z.vv,ww,f,z.la,.i .i64 (B:Int),fo] 165 0 0):=(j5.get _ U5 λh=>by have:=(L1.rn _ h).1.1;omega).trans y8;have fS:∀o,Fr (λk=>k=z.S) H9 (H9.mod z.S o):=λo=>(Fr.refl _).mod _ (.inr rfl);have hU:US z B (H9.mod z.S (.arr [z.k,z.a,z.b,z.vv,ww,f,z.la,.i .i64 (B:Int),o9] 165 0 0)) f o9 ww (aY z.v F) F (found++[ff]) q (some r9):=
   ⟨(L1.dat.fr j5 λk hk=>.inr (.inr (L1.rn k hk).1.1)).fr (fS _) λk hk=>.inl hk,aq rfl,
     (L1.w.fr j5 λhh=>by have:=(L1.rn _ hh).1.1;omega).fr (fS _) λhh=>hN.1.2.2 hh.symm,
     (L1.x.fr j5 λk hk hh=>(L1.rn k hh).1.2 hk).fr (fS _) λk hk hh=>by have:=L1.qn k hk;omega,L1.qn,Q7.fr pt nY (fS _) λk hk=>.inl (.inl aa)⟩
  have fr10:∀o,Fr (XU z) H (H9.mod z.S o):=λo=>fr9.then (fS o) λk hk=>.inr (.inl hk);replace hU:=hd hU;replace fr10:=hd fr10;replace fr9:=hd fr9;replace j5:=hd j5;replace P7:=hd P7;replace Q7:=hd Q7;replace L1:=hd L1;replace R4:=hd R4;replace hW:=hd hW;replace hr:=hd hr;replace U0:=hd U0;replace c1:=hd c1;refine zW tyQ ?_;refine zG (qA tyQ jU) λK5 V0=>?_;refine⟨R6,?_⟩;refine zK tyQ ?_;exact fin.out _ _ _ (.inl rfl) qe (fr10.out _) ⟨o9,some r9,by rw[R4.out];exact hU.out⟩
 have ce:(t==(B:Int))=false:=aF c1;have R4:xK z.v z.lr (KFz z) B F=none:=by rw[hW];exact ab c1
 replace R4:=hd R4;replace hW:=hd hW;replace hr:=hd hr;replace U0:=hd U0;replace c1:=hd c1;refine zW tyQ ?_;exact fin.out _ _ _ (.inl rfl) qe (Fr.none g2) ⟨fo,r,by rw[R4.out];show US z B H2 f fo ww (aY z.v F) F (found++[]) q r;rw[List.append_nil];exact L1⟩
end Go.Proofs.YtgepceljhelekaaGreat

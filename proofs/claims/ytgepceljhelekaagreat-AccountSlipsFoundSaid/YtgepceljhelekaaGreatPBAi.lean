/- A part of the proof. -/
import Derived.Test.YtgepceljhelekaaGreatPBAh
import Derived.Sort.Defs
import Derived.Sort.Lot0
set_option maxRecDepth 100000
set_option maxHeartbeats 64000000
set_option linter.all false
open Go.Proofs.Tryz (prog)
noncomputable section
namespace Go.Proofs.YtgepceljhelekaaGreat
open Go Go.Eng
def zT:aq prog 40=true:=ae
def wB:aq prog 65=true:=ae
def yk:aq prog 68=true:=ae
def uB:aq prog 69=true:=ae
abbrev Sp:=Int×List UInt8×Int
def spC(x:Sp):List AC:=[.i .i64 x.1,.o (.str x.2.1),.i .i64 x.2.2]
def okN(m:Int):Bool:=decide (1<=m)&&decide (m<=1099511627776)
def jL(us:List Pr)(i:Nat)(k:Int):Bool:=((i+1:Nat):Int)==(us.length:Int)||decide (k<(us.getD (i+1) ([],0)).2)
def one(b:Bool)(x:Sp):List Sp:=if(b&&okN x.2.2)=true then[x]else[]
def eM(us:List Pr)(cs vs:List Int)(n:Int)(i:Nat):List Sp:=
 one (decide (0<cs.getD i 0)) (1,(us.getD i ([],0)).1,n-vs.getD i 0)++one (jL us i (cs.getD i 0+1)) (2,(us.getD i ([],0)).1,n+vs.getD i 0) ++
 (if i+1=us.length then[]else
  one (cs.getD i 0==0&&decide (0<cs.getD (i+1) 0)&&jL us i (cs.getD (i+1) 0)) (3,(us.getD i ([],0)).1,n-cs.getD (i+1) 0*vs.getD (i+1) 0+cs.getD (i+1) 0*vs.getD i 0) ++
  one (cs.getD (i+1) 0==0&&decide (0<cs.getD i 0)&&jL us (i+1) (cs.getD i 0)) (4,(us.getD (i+1) ([],0)).1,n-cs.getD i 0*vs.getD i 0+cs.getD i 0*vs.getD (i+1) 0))
def slA(S:List Sp)(j:Nat):List AV:=match S[j]? with|some x=>[.agg (spC x)]|none=>[.any]
def Ge(S:List Sp)(j:Nat):(slA S j).length=1:=by unfold slA;split<;>rfl
def Gd{S:List Sp}{j:Nat}{x:Sp}(h:S[j]?=some x):slA S j=[.agg (spC x)]:=by unfold slA;rw[h]
def vI(H:Hp)(us:List Pr)(cs:List Int)(nm:List UInt8)(u c:AC)(rc il:Nat)(i:Nat)(k:Int)(hu:SlP H u us)(hc:SlI H c cs)(hl:cs.length=us.length)(hi:i<us.length)(hL:us.length<=1000000)(hrc:rc<H.nx)(Z4:il<H.nx)(hgc:H.get rc=some (.arr [c] 27 0 0))(hgl:H.get il=some (.arr [.o (.str nm),u] 51 0 0)):
  Con E2 68 [.one (.i .i64 (i:Int)),.one (.i .i64 k),.one (.o (.ptr rc 0 0 1)),.one (.o (.ptr il 0 0 2))] H (λ_=>False) λr _=>r=.one (.b (jL us i k)):=by
 refine Con.hda6 (λH=>SlP H u us) hu (λH=>SlI H c cs) hc (λH=>rc<Hp.nx H) hrc (λH=>il<Hp.nx H) Z4 (λH=>Hp.get H rc=some (.arr [c] 27 0 0)) hgc (λH=>Hp.get H il=some (.arr [.o (.str nm),u] 51 0 0)) hgl λH hu hc hrc Z4 hgc hgl=>?_;refine C1.nk 23 [.tmp 6] Tryz.func68 λtm h0 h1 h2 h3=>?_;have fin:=Tq E2 H 6 (jL us i k);generalize E0:jL us i k=r0 at fin;have l1:=hc.len;have l2:=hc.lt;rw[hl]at l1;replace hl:=ah hl;have N2:=bw i;unfold jL at E0;cases Z2:(((i+1:Nat):Int)==(us.length:Int))with
 |true=>refine zW tyF ?_;exact fin (true) _ _ qp qe (Fr.refl _) ((by rw[Z2,Bool.true_or]at E0;exact E0))
 |false=>
  have D0:i+1<us.length:=by have:=ne_of_beq_false Z2;omega
  obtain⟨id,g,off,cells,rfl,hid,B2,Q0⟩:=hu.open aa;have ey:us[i+1]?=some (us.getD (i+1) ([],0)):=by rw[bt,aO D0];rfl
  have hy:=Q0 _ _ ey;have y1:=hy.snd;have y2:=hy.le2;clear Q0;refine zW (qA tyF (ixC D0)) ?_;exact fin ((decide (k<(us.getD (i+1) ([],0)).2))) _ _ qp qe (Fr.refl _) ((by rw[Z2,Bool.false_or]at E0;exact E0))
def ri{σ:Type}{L:Nat}{S:List Sp}{Dn:Nat->Prop}(B:YB E2 L S.length (slA S) Dn σ)(s:σ)(j:Nat)(H:Hp)(us:List Pr)(nm:List UInt8)(u:AC)(rb il:Nat)(kd:Int)(i:Nat)(m:Int)(hj:B.J j s H)(hu:SlP H u us)(hi:i<us.length)(hL:us.length<=1000000)(hrb:rb<H.nx)(Z4:il<H.nx)
  (hgb:H.get rb=some (.arr [.o (.yl L)] 153 0 0)) (hgl:H.get il=some (.arr [.o (.str nm),u] 51 0 0)) (hS:okN m=true->S[j]?=some (kd,(us.getD i ([],0)).1,m)):
  Con E2 69 [.one (.i .i64 kd),.one (.i .i64 (i:Int)),.one (.i .i64 m),.one (.o (.ptr rb 0 0 1)),.one (.o (.ptr il 0 0 2))] H (B.fp s) λr H'=>∃b s',r=.one (.b b)/\(b=true->B.J (if okN m=true then j+1 else j) s' H')/\(b=false->B.F s' H')/\∀k,B.fp s' k->B.fp s k\/H.nx<=k:=by
 refine Con.of rfl λlg=>?_;have hj:B.J j s ⟨H.t,H.nx,lg⟩:=B.hJ hj (ai _) λ_ _=>rfl;have hu:SlP ⟨H.t,H.nx,lg⟩ u us:=hu;have hrb:rb<(⟨H.t,H.nx,lg⟩:Hp).nx:=hrb;have Z4:il<(⟨H.t,H.nx,lg⟩:Hp).nx:=Z4;have hgb:(⟨H.t,H.nx,lg⟩:Hp).get rb=some (.arr [.o (.yl L)] 153 0 0):=hgb;have hgl:(⟨H.t,H.nx,lg⟩:Hp).get il=some (.arr [.o (.str nm),u] 51 0 0):=hgl;have e0:H.nx=(⟨H.t,H.nx,lg⟩:Hp).nx:=rfl;rw[e0];clear e0;generalize(⟨H.t,H.nx,lg⟩:Hp)=H at hj hu hrb Z4 hgb hgl |-
 generalize z6:(if okN m=true then j+1 else j)=j';refine C1.EP 28 [.tmp 8] Tryz.func69 λtm h0 h1 h2 h3 h4=>?_;have fin:∀(b:Bool)(A:ag)(H3:Hp)(s':σ),slot A.tm 8=.one (.b b)->A.dfr=[]->Fr (B.fp s) H H3->(b=true->B.J j' s' H3)->(b=false->B.F s' H3)->(∀k,B.fp s' k->B.fp s k\/H.nx<=k) ->
   ∃w H4,aH E2 [.tmp 8] (.ret,A,H3)=.ok [(w,H4)]/\Fr (B.fp s) H H4/\∀lg',∃b s',w=.one (.b b)/\(b=true->B.J j' s' ⟨H4.t,H4.nx,lg'⟩)/\(b=false->B.F s' ⟨H4.t,H4.nx,lg'⟩)/\∀k,B.fp s' k->B.fp s k\/H.nx<=k:=λb A H3 s' h1 h2 h3 h4 h5 h6=>
  ⟨_,H3,au (.b b) (.inr rfl) h2 h1,h3,λ_=>⟨b,s',rfl,λh=>B.hJ (h4 h) (ai _) λ_ _=>rfl,λh=>B.hF (h5 h) (ai _) λ_ _=>rfl,h6⟩⟩
 by_cases c0:m<1
 ·have hk:okN m=false:=by unfold okN;rw[aV aa];rfl
  rw[hk,ab zA8]at z6;subst z6;refine zW tyF ?_;exact fin true _ _ s qp qe (Fr.refl _) (λ_=>hj) (λh=>by cases h) λ_ h=>.inl h
 by_cases c1:1099511627776<m
 ·have hk:okN m=false:=by unfold okN;rw[aV (show¬m<=1099511627776 by omega),Bool.and_false]
  rw[hk,ab zA8]at z6;subst z6;refine zW tyF ?_;exact fin true _ _ s qp qe (Fr.refl _) (λ_=>hj) (λh=>by cases h) λ_ h=>.inl h
 have hk:okN m=true:=by unfold okN;rw[aL aa,aL aa];rfl
 rw[hk,ad rfl]at z6;subst z6;have hSj:=hS hk;have hjl:j<S.length:=(List.getElem?_eq_some_iff.1 hSj).1;have hp:=B.pass j s H hjl hj;rw[Gd hSj,spC]at hp;obtain⟨id,g,off,cells,rfl,hid,B2,Q0⟩:=hu.open aa;have ey:us[i]?=some (us.getD i ([],0)):=by rw[bt,aO hi];rfl
 have hy:=Q0 _ _ ey;have y1:=hy.fst;have y2:=hy.le1;clear Q0 hS hSj hk ey;generalize us.getD i ([],0)=y at y1 hp;refine zW tyF ?_;refine zG (qA tyF (ixC hi)) λK hK=>?_;refine WE.aaE hp λv H4 hf4⟨b,s3,hv,Z6,s7,E7⟩=>?_;subst hv;refine zK tyF ?_;exact fin b _ _ s3 qp qe hf4 Z6 s7 E7
def drop_one{S R:List Sp}{j:Nat}{x:Sp}(h:S.drop j=one true x++R):(okN x.2.2=true->S[j]?=some x)/\S.drop (if okN x.2.2=true then j+1 else j)=R:=by
 unfold one at h;cases hk:okN x.2.2 with
 |true=>
  rw[hk,Bool.true_and,ad rfl]at h;have h0:(S.drop j)[0]?=some x:=by rw[h];rfl
  rw[gS]at h0;refine⟨λ_=>h0,?_⟩;rw[ad rfl,<-iy,h];rfl
 |false=>rw[hk,Bool.true_and,ab zA8,gQ]at h;exact⟨λh2=>absurd h2 zA8,(ab zA8).symm▸h⟩
def gk{S R:List Sp}{j:Nat}{x:Sp}(h:S.drop j=one false x++R):S.drop j=R:=by unfold one at h;rw[Bool.false_and,ab zA8,gQ]at h;exact h
def dI(us:List Pr)(cs vs:List Int)(n:Int):List Sp:=(List.range us.length).flatMap (eM us cs vs n)
def WY(l:List Int)(i:Nat)(h:i<l.length):((l.map (AC.i .i64)).drop i).headD (.b false)=.i .i64 (l.getD i 0):=by rw[<-List.map_drop,bt,List.drop_eq_getElem_cons h,aO h];rfl
def dG(nm:List UInt8)(us:List Pr):List Int:=us.map λx=>(sW nm us x.1).1
def KM(us:List Pr)(cs vs:List Int):Prop:=∀i,i<us.length->(0<=cs.getD i 0/\cs.getD i 0<=1099511627776)/\(0<=vs.getD i 0/\vs.getD i 0<=1099511627776) /\
 (i+1<us.length->(0<=cs.getD (i+1) 0*vs.getD (i+1) 0/\cs.getD (i+1) 0*vs.getD (i+1) 0<=1099511627776)/\(0<=cs.getD (i+1) 0*vs.getD i 0/\cs.getD (i+1) 0*vs.getD i 0<=1125899906842624) /\
  (0<=cs.getD i 0*vs.getD i 0/\cs.getD i 0*vs.getD i 0<=1099511627776)/\(0<=cs.getD i 0*vs.getD (i+1) 0/\cs.getD i 0*vs.getD (i+1) 0<=1125899906842624))
def xd(H:Hp)(il rn:Nat)(nm:List UInt8)(u:AC)(us:List Pr)(n:Int)(Z4:il<H.nx)(hgl:H.get il=some (.arr [.o (.str nm),u] 51 0 0))(X6:rn<H.nx)(hgn:H.get rn=some (.arr [.i .i64 n] 3 0 0))(hu:SlP H u us)(N0:aR nm us=0)(C5:1<=n)(E4:n<=1099511627776)
  (cs vs:List Int) (W3:aC us n=cs) (T4:dG nm us=vs) (hSB:KM us cs vs) (S:List Sp) (hS:dI us cs vs n=S):
  ItC E2 65 [(il,0,0,2),(rn,0,0,1)] S.length (slA S) (λk=>k=il\/k=rn\/k∈(AV.one u).ids) H:=by
 intro σ L B s H1 V1 R4 hj;refine Con.of rfl λlg=>?_;have hj:B.J 0 s ⟨H1.t,H1.nx,lg⟩:=B.hJ hj (ai _) λ_ _=>rfl;have V1:H.nx<=(⟨H1.t,H1.nx,lg⟩:Hp).nx:=V1;have R4:∀k,k<H.nx->(⟨H1.t,H1.nx,lg⟩:Hp).get k=H.get k:=R4;have e0:H1.nx=(⟨H1.t,H1.nx,lg⟩:Hp).nx:=rfl;rw[e0];clear e0;generalize(⟨H1.t,H1.nx,lg⟩:Hp)=H1 at hj V1 R4 |-
 have hgl1:H1.get il=some (.arr [.o (.str nm),u] 51 0 0):=by rw[R4 _ Z4];exact hgl
 have hgn1:H1.get rn=some (.arr [.i .i64 n] 3 0 0):=by rw[R4 _ X6];exact hgn
 have hil1:il<H1.nx:=ay Z4 V1;have hrn1:rn<H1.nx:=ay X6 V1;have V2:SlP H1 u us:=SlC.dV hu V1 R4;have hfpD:∀k,B.fp s k->k<H1.nx/\¬(k=il\/k=rn\/k∈(AV.one u).ids):=λk hk=>B.hl hj hk;clear hgl hgn R4 hu Z4 X6 V1;have hL:=(jg N0).1;have hck':=N0;have j8:jr nm us n=(cs,0):=by unfold jr;rw[ab (λh=>h N0),ad ⟨aa,E4⟩,W3]
 have W0:cs.length=us.length:=by rw[<-W3];exact lP us n
 have U1:vs.length=us.length:=by rw[<-T4];unfold dG;exact cT _
 refine C1.HA 180 [] Tryz.func65 λtm h0 h1 h2=>?_;refine zG tyF λK hK=>?_;apply hK.out;refine R1.gen (λA2 H2=>Gr H1 H2/\H1.nx<H2.nx/\H2.get H1.nx=some (.arr [.o (.yl L)] 153 0 0)/\ea A2 il (mW A2 rn H1.nx (A2.nt=180/\A2.dfr=[]))) ⟨(Fr.refl _).new _,aZ _,aJ rfl,zL⟩ ?_;clear h0 h1 h2 tm hK K;rintro A2 H2 ⟨g2,mb,rb,t1,t2,t3,A0,B0⟩;obtain⟨qb,hqb⟩:=dZ H1.nx;rw[<-hqb]at mb rb t3;replace hqb:=ah hqb;obtain⟨rl,ml⟩:=bq g2 hil1 hgl1;obtain⟨rn2,mn⟩:=bq g2 hrn1 hgn1;refine zG (qA tyF Sf) λK hK=>?_;refine WE.con (Mm H2 nm u us n (V2.gr g2)) λw H3 g3⟨c,hq,hc,V3⟩=>?_;rw[j8]at hq hc;subst hq;obtain⟨rb,mb⟩:=bq g3 mb rb;obtain⟨rl,ml⟩:=bq g3 ml rl;obtain⟨rn2,mn⟩:=bq g3 mn rn2;have g3:=g2.gr g3;refine zS tyF ?_;apply hK.out;refine R1.gen (λA4 H4=>Gr H1 H4/\Gr H3 H4/\H3.nx<H4.nx/\H4.get H3.nx=some (.arr [c] 27 0 0)/\ea A4 il (mW A4 rn qb (jb A4 H3.nx (A4.nt=180/\A4.dfr=[]))))
  ⟨(g3.new _).mod _ (.inl g3.nx),((Fr.refl _).new _).mod _ (.inl (ai _)),aZ _,ao rfl,zL⟩ ?_
 clear t1 t2 t3 A0 B0 A2 hK K;rintro A H4 ⟨g4,g34,mc,rc,t1,t2,t3,t4,A0,B0⟩;obtain⟨rb,mb⟩:=bq g34 mb rb;obtain⟨rl,ml⟩:=bq g34 ml rl;obtain⟨rn2,mn⟩:=bq g34 mn rn2;have hqv1:qb<H4.nx/\H3.nx<H4.nx/\il<H4.nx/\rn<H4.nx/\H1.nx<=H4.nx:=⟨mb,mc,ml,mn,g4.nx⟩;have hc4:=hc.gr g34;have hqc:H1.nx<=H3.nx:=g3.nx;obtain⟨qc,hqc'⟩:∃q,q=H3.nx:=⟨_,rfl⟩;rw[<-hqc']at mc rc t4 hqc hqv1;have hcf1:∀k∈(AV.one c).ids,H1.nx<=k:=λk hk=>aD g2.nx (V3 k hk);clear hqc' g3 g34 hc V3;obtain⟨z,hz,hzc⟩:∃z,ba prog 3=some z/\(ofValue z).cells=[.i .i64 0]:=⟨.int .i64 0,GR,rfl⟩;have mk:∀H,dN prog H 27 (.one (.i .i64 (cs.length:Int))) (.one (.i .i64 (cs.length:Int)))=.val (.one (.o (.sl H.nx 0 0 cs.length 1))) (H.new (.arr ((List.replicate cs.length (0:Int)).map (AC.i .i64)) 3 0 0)):=λH=>by rw[tK fD tz hz (by rw[hzc];rfl) aa,hzc,yL,List.map_replicate]
 clear hz hzc;have l1:=hc4.len;have l2:=hc4.lt;rw[W0]at l1 mk;replace W0:=ah W0;replace U1:=ah U1;replace W3:=ah W3;replace j8:=ah j8;replace T4:=ah T4;replace N0:=ah N0;clear hck';replace hS:=ah hS;refine zG (qA tyF mk) λK hK=>?_;apply hK.out;refine R1.gen (λA5 H5=>Gr H1 H5/\Gr H4 H5/\H4.nx<H5.nx/\H5.get H4.nx=some (.arr ((List.replicate us.length (0:Int)).map (AC.i .i64)) 3 0 0)/\ea A5 il (mW A5 rn qb (jb A5 qc (eK A5 6 (.o (.sl H4.nx 0 0 us.length 1)) 180 []))))
  ⟨g4.new _,(Fr.refl _).new _,aZ _,aJ rfl,zL⟩ ?_
 clear t1 t2 t3 t4 A0 B0 A hK K mk l1 l2;rintro A H5 ⟨g5,g45,mv,rv,t1,t2,t3,t4,t6,A0,B0⟩;obtain⟨rb,mb⟩:=bq g45 mb rb;obtain⟨rl,ml⟩:=bq g45 ml rl;obtain⟨rn2,mn⟩:=bq g45 mn rn2;obtain⟨rc,mc⟩:=bq g45 mc rc;have hc5:=hc4.gr g45;have Y6:∀k∈(AV.one c).ids,k<H4.nx:=hc4.lt;obtain⟨qv,hqv⟩:=dZ H4.nx;rw[<-hqv]at mv rv t6 Y6 hqv1;clear hqv g45 hc4 g4;have R5:=V2.gr g5;have l1:=R5.len;have l2:=R5.lt;refine zW tyF ?_;obtain⟨hqb1,hqc1,hqi1,hqn1,P6⟩:=hqv1;have RF:∀H6,Fr (λk=>k=qv) H5 H6->(H6.get qb=some (.arr [.o (.yl L)] 153 0 0)/\qb<H6.nx)/\(H6.get il=some (.arr [.o (.str nm),u] 51 0 0)/\il<H6.nx)/\(H6.get rn=some (.arr [.i .i64 n] 3 0 0)/\rn<H6.nx)/\(H6.get qc=some (.arr [c] 27 0 0)/\qc<H6.nx)/\qv<H6.nx:=λH6 f=>
  ⟨⟨(f.get _ mb aa).trans rb,ay mb f.nx⟩,⟨(f.get _ ml aa).trans rl,ay ml f.nx⟩,⟨(f.get _ mn aa).trans rn2,ay mn f.nx⟩,⟨(f.get _ mc aa).trans rc,ay mc f.nx⟩,ay mv f.nx⟩
 have hcne:∀k∈(AV.one c).ids,¬k=qv:=λk hk e=>by have:=Y6 k hk;omega
 refine R1.ed λK k1 k2 k3 k4=>?_;refine R1.loop (λm A H6=>∃i:Nat,m=us.length-i/\i<=us.length/\Gr H1 H6/\Fr (λk=>k=qv) H5 H6/\H6.get qv=some (.arr ((vs.take i++List.replicate (us.length-i) (0:Int)).map (AC.i .i64)) 3 0 0) /\
   slot A.tm 1=.one ((.o (.ptr il 0 0 2)))/\slot A.tm 2=.one ((.o (.ptr rn 0 0 1)))/\slot A.tm 3=.one ((.o (.ptr qb 0 0 1)))/\slot A.tm 4=.one ((.o (.ptr qc 0 0 1)))/\slot A.tm 6=.one ((.o (.sl qv 0 0 us.length 1)))/\slot A.tm 24=.one (u)/\slot A.tm 25=.one (.i .i64 (us.length:Int))/\slot A.tm 26=.one (.i .i64 (i:Int))/\A.nt=180/\A.dfr=[]) ?_ us.length
  ⟨0,rfl,Nat.zero_le _,g5,Fr.refl _,rv,zL⟩
 clear t1 t2 t3 t4 t6 A0 B0 A rb rl rn2 rc rv k3 l1 l2 R5;rintro m A H6 ⟨i,rfl,hi,g6,f6,rv,t1,t2,t3,t4,t6,t24,t25,t26,A0,B0⟩;refine zW tyF ?_;refine zI tyF (λhc=>?_) (λhc=>?_)
 ·have D0:i<us.length:=aa;have ex:=aO D0;have S0:=List.drop_eq_getElem_cons D0;have Y2:=dK D0;have I0:=cU D0;generalize us[i]=x at ex S0 Y2 I0;have N2:=bw i;obtain⟨id,g,off,cells,rfl,hid,B2,Q0⟩:=(V2.gr g6).open aa;have hy:=Q0 _ _ ex;have y1:=hy.all;have y2:=hy.le;have hvx:vs.take (i+1)=vs.take i++[(sW nm us x.1).1]:=by
   have e:vs[i]?=some (sW nm us x.1).1:=by rw[<-T4.out];unfold dG;rw[pf,ex];rfl
   obtain⟨h1,h2⟩:=List.getElem?_eq_some_iff.1 e;rw[dK h1,h2]
  clear Q0 hy S0 Y2;refine zW tyF ?_;refine R1.ed λK2 q1 q2 q3 q4=>?_;refine zG (zDd tyF (ixC D0) fF) λK3 L7=>?_;apply L7.out;refine R1.gen (λA7 H7=>Gr H1 H7/\Gr H6 H7/\H6.nx<H7.nx/\H7.get H6.nx=some (.arr [.o (.str x.1),.i .i64 x.2] 133 0 0)/\ea A7 il (mW A7 rn qb (jb A7 qc (slot A7.tm 6=.one (.o (.sl qv 0 0 us.length 1))/\gT A7 i (yf A7 8 24 25 26 (.o (.ptr H6.nx 0 0 2)) (.o (.sl id g off us.length 2)) (.i .i64 (us.length:Int)) (.i .i64 (i:Int)) 180 [])))))
   ⟨(g6.new _).mod _ (.inl g6.nx),((Fr.refl _).new _).mod _ (.inl (ai _)),aZ _,ao rfl,zL⟩ ?_
  clear t1 t2 t3 t4 t6 t24 t25 t26 A0 B0 A y1 y2 B2 hid L7 K3;rintro A H7 ⟨g7,g67,m8,r8,t1,t2,t3,t4,t6,t7,t8,t24,t25,t26,A0,B0⟩;have f7:Fr (λk=>k=qv) H5 H7:=f6.gr g67;have rv7:=(g67.get _ (RF H6 f6).2.2.2.2 aF).trans rv;refine zG (zDd tyF (RF H7 f7) Su) λK3 L7=>?_;refine WE.con (Rr H7 nm _ us x.1 (V2.gr g7)) λw H8 g8 hq=>?_;subst hq;have f8:Fr (λk=>k=qv) H5 H8:=f7.gr g8;have rv8:=(g8.get _ (RF H7 f7).2.2.2.2 aF).trans rv7;have g78:=g7.gr g8;clear rv rv7 r8 m8;have hlen:(vs.take i).length=i:=by have:=U1.out;rw[dY];omega
  have hle:i+1<=((vs.take i++List.replicate (us.length-i) (0:Int)).map (AC.i .i64)).length:=by rw[cT,bA,wh,hlen];omega
  have R6:List.take i ((vs.take i++List.replicate (us.length-i) (0:Int)).map (AC.i .i64))++AC.i .i64 (sW nm us x.1).1::List.drop (i+1) ((vs.take i++List.replicate (us.length-i) (0:Int)).map (AC.i .i64))=(vs.take (i+1)++List.replicate (us.length-(i+1)) 0).map (AC.i .i64):=by rw[setRow (AC.i .i64) _ _ _ (by rw[bA,wh,hlen];omega)];have e:us.length-i=(us.length-(i+1))+1:=aa;rw[e];have e2:=Vk (vs.take i) 0 (sW nm us x.1).1 (us.length-(i+1));rw[hlen]at e2;rw[e2,hvx]
  replace hlen:=ah hlen;clear hvx;generalize(sW nm us x.1).1=vx at R6
  generalize(sW nm us x.1).2=ve
  refine zS (zDg tyF (RF H8 f8) (ixC D0) R6 bR hle) ?_;apply L7.out;apply q1.out;refine zW tyF ?_;exact⟨us.length-(i+1),aa,i+1,rfl,D0,g78.mod _ (.inl aa),f8.mod _ (.inr rfl),ao rfl,zL⟩
 have U2:i=us.length:=aa;refine zW tyF ?_;apply k2.out;clear k1 k2 k4;have hvl2:vs.take us.length=vs:=by rw[<-U1.out,pn]
 rw[U2,ga,List.replicate_zero,List.append_nil,hvl2]at rv;replace U2:=ah U2;clear t26 t24 t25 hvl2;have hc6:SlI H6 c cs:=SlC.fr hc5 f6 hcne;have l1:=hc6.len;have l2:=hc6.lt;rw[W0.out]at l1;refine zW (qA tyF (RF H6 f6)) ?_;have hlp:0<us.length:=by obtain⟨x0,l0,e0,_⟩:=gj N0.out;rw[e0];exact Nat.succ_pos _
 obtain⟨idc,gc,offc,cellsc,hce,hidc,hgc,hatc⟩:=hc6.open (by have:=W0.out;omega);rw[W0.out]at hce;subst hce;have ec:∀j,j<us.length->(cellsc.drop (offc+j)).headD (.b false)=.i .i64 (cs.getD j 0)/\offc+j+1<=cellsc.length:=λj hj=>by
  have e:cs[j]?=some (cs.getD j 0):=by have:=W0.out;rw[bt,aO aa];rfl
  have h:=hatc j _ e;rwa [bR]at h
 have evv:∀j,j<us.length->((vs.map (AC.i .i64)).drop j).headD (.b false)=.i .i64 (vs.getD j 0)/\j+1<=(vs.map (AC.i .i64)).length:=λj hj=>by have:=U1.out;exact⟨WY vs j aa,by rw[cT];omega⟩
 have hnD:∀k,(H1.nx<=k\/(k=il\/k=rn\/k∈(AV.one u).ids))->¬B.fp s k:=λk h hf=>by
  have h2:=hfpD k hf;rcases h with h|h
  ·omega
  exact h2.2 h
 have hqbn:¬B.fp s qb:=hnD _ (.inl (by have:=hqb.out;omega));have hidf:¬B.fp s idc:=hnD _ (.inl (hcf1 idc (List.mem_singleton.2 rfl)));have c8:∀k∈(AV.one u).ids,¬B.fp s k:=λk hk=>hnD k (.inr (.inr (.inr hk)));have hcn:∀k∈(AV.one (.o (.sl idc gc offc us.length 1))).ids,¬B.fp s k:=λk hk=>by rw[List.mem_singleton.1 hk];exact hidf
 have M7:=V2.gr g6;have RG:∀H7,Fr (B.fp s) H6 H7->(H7.get qb=some (.arr [.o (.yl L)] 153 0 0)/\qb<H7.nx)/\(H7.get il=some (.arr [.o (.str nm),u] 51 0 0)/\il<H7.nx)/\(H7.get rn=some (.arr [.i .i64 n] 3 0 0)/\rn<H7.nx)/\(H7.get qc=some (.arr [.o (.sl idc gc offc us.length 1)] 27 0 0)/\qc<H7.nx)/\(H7.get qv=some (.arr (vs.map (AC.i .i64)) 3 0 0)/\qv<H7.nx)/\(rowOf (H7.get idc) gc=some cellsc/\idc<H7.nx):=λH7 f=>by obtain⟨⟨a1,a2⟩,⟨b1,b2⟩,⟨c1,c2⟩,⟨d1,d2⟩,e2⟩:=RF H6 f6;exact⟨⟨(f.get _ a2 hqbn).trans a1,ay a2 f.nx⟩,⟨(f.get _ b2 (hnD _ (.inr (.inl rfl)))).trans b1,ay b2 f.nx⟩,⟨(f.get _ c2 (hnD _ (.inr (.inr (.inl rfl))))).trans c1,ay c2 f.nx⟩,⟨(f.get _ d2 (hnD _ (.inl hqc))).trans d1,ay d2 f.nx⟩,⟨(f.get _ e2 (hnD _ (.inl P6))).trans rv,ay e2 f.nx⟩,⟨by rw[f.get _ hidc hidf];exact hgc,ay hidc f.nx⟩⟩
 have hcS:∀H7,Fr (B.fp s) H6 H7->SlI H7 (.o (.sl idc gc offc us.length 1)) cs:=λH7 f=>SlC.fr hc6 f hcn;have huS:∀H7,Fr (B.fp s) H6 H7->SlP H7 u us:=λH7 f=>SlC.fr M7 f c8;have hj6:B.J 0 s H6:=B.hJ hj g6.nx λk hk=>g6.get k hk aF;have fin:∀(e:ax),e=.normal\/e=.ret->∀s3 H3 A3,B.J S.length s3 H3\/B.F s3 H3->Fr (B.fp s) H6 H3->(∀k,B.fp s3 k->B.fp s k\/H6.nx<=k)->A3.dfr=[]->∃v H4,aH E2 [] (e,A3,H3)=.ok [(v,H4)]/\Fr (B.fp s) H1 H4/\∀lg',∃s',(B.J S.length s' ⟨H4.t,H4.nx,lg'⟩\/B.F s' ⟨H4.t,H4.nx,lg'⟩)/\∀k,B.fp s' k->B.fp s k\/H1.nx<=k:=λe he s3 H3 A3 hjf hf M6 hd=>
  ⟨_,H3,bp he hd,g6.none.then hf λk hk=>.inr hk,λlg'=>⟨s3,hjf.imp (λh=>B.hJ (H:=H3) h (ai _) λ_ _=>rfl) (λh=>B.hF (H:=H3) h (ai _) λ_ _=>rfl),λk hk=>(M6 k hk).imp id λh=>aD g6.nx h⟩⟩
 have hS0:S.drop 0=((List.range us.length).drop 0).flatMap (eM us cs vs n):=by rw[List.drop_zero,List.drop_zero];exact hS.out.symm
 have n16:=g6.nx;replace hS0:=ah hS0;clear RF hcne hc6 hc5 M7 rv hatc hgc hj l1 l2 V2 g5 mb ml mn mc mv Y6 hcf1 hlp;refine R1.cR λK k1 k2 k3 k4=>?_;refine R1.loop (λm A H7=>∃(i j:Nat)(s2:σ),m=us.length-i/\i<=us.length/\j<=S.length/\B.J j s2 H7/\Fr (B.fp s) H6 H7/\(∀k,B.fp s2 k->B.fp s k\/H6.nx<=k)/\Hd (S.drop j=((List.range us.length).drop i).flatMap (eM us cs vs n))/\BJ A rn qc qv us.length qc il qb il us.length i (A.nt=180/\A.dfr=[])) ?_ us.length
  ⟨0,0,s,rfl,Nat.zero_le _,Nat.zero_le _,hj6,Fr.refl _,λ_ h=>.inl h,hS0,zL⟩
 clear t1 t2 t3 t4 t6 A0 B0 A hj6 hS0;rintro m A H7 ⟨i,j,s2,rfl,hi,hjS,hj7,f7,M6,hSj,t2,t4,t6,t9,t10,t45,t46,A0,B0⟩;refine zW tyF ?_;refine zI tyF (λhc=>?_) (λhc=>?_)
 ·have D0:i<us.length:=aa;have N2:=bw i;have hfl:((List.range us.length).drop i).flatMap (eM us cs vs n)=eM us cs vs n i++((List.range us.length).drop (i+1)).flatMap (eM us cs vs n):=by rw[List.drop_eq_getElem_cons (by rw[wj];exact D0),List.getElem_range,List.flatMap_cons]
  replace hSj:=hSj.out;rw[hfl]at hSj;obtain⟨⟨c0,c1⟩,⟨v0,v1⟩,hmore⟩:=hSB i D0;obtain⟨ec1,ec2⟩:=ec i D0;obtain⟨ev1,ev2⟩:=evv i D0;generalize hR:((List.range us.length).drop (i+1)).flatMap (eM us cs vs n)=R at hSj;replace hR:=ah hR;clear hfl;have w1:=bZ (n-vs.getD i 0);have w2:=bZ (n+vs.getD i 0);have w3:=bZ (cs.getD i 0+1);refine zW tyF ?_;refine R1.ed λK2 q1 q2 q3 q4=>?_;refine zW tyF ?_;have next:∀(s4:σ)(j4:Nat)(A8:ag)(H8:Hp),j4<=S.length->B.J j4 s4 H8->Fr (B.fp s) H6 H8->(∀k,B.fp s4 k->B.fp s k\/H6.nx<=k)->S.drop j4=R->BJ A8 rn qc qv us.length qc il qb il us.length i (A8.nt=180/\A8.dfr=[])->K2 .normal A8 H8/\K2 (.exit 3) A8 H8:=by
   clear t2 t4 t6 t9 t10 t45 t46 A0 B0 A;rintro s4 j4 A H8 N5 hj8 f8 W4 U5 ⟨t2,t4,t6,t9,t10,t45,t46,A0,B0⟩;replace U5:Hd (S.drop j4=((List.range us.length).drop (i+1)).flatMap (eM us cs vs n)):=U5.trans hR.out.symm;refine⟨q1.out _ _ ?_,q2.out _ _ ?_⟩
   ·refine zW tyF ?_;exact⟨us.length-(i+1),aa,i+1,j4,s4,rfl,D0,N5,hj8,f8,W4,U5,zL⟩
   refine zW tyF ?_;exact⟨us.length-(i+1),aa,i+1,j4,s4,rfl,D0,N5,hj8,f8,W4,U5,zL⟩
  have stop:∀(s4:σ)(A8:ag)(H8:Hp),B.F s4 H8->Fr (B.fp s) H6 H8->(∀k,B.fp s4 k->B.fp s k\/H6.nx<=k)->A8.dfr=[]->K2 .ret A8 H8:=λs4 A8 H8 h1 h2 h3 h4=>q4.out _ _ (k4.out _ _ (fin .ret (.inr rfl) s4 H8 A8 (.inr h1) h2 h3 h4));replace next:=ah next;replace stop:=ah stop;unfold eM at hSj;rw[bW,bW]at hSj;generalize hT:(if i+1=us.length then([]:List Sp)else _)++R=T at hSj;repeat refine R1.aM ?_
  refine R1.s_h ae λK3 L7=>?_;have rest:Hd (∀(s4:σ)(j4:Nat)(A8:ag)(H8:Hp),j4<=S.length->B.J j4 s4 H8->Fr (B.fp s) H6 H8->(∀k,B.fp s4 k->B.fp s k\/H6.nx<=k)->S.drop j4=T->(slot A8.tm 11=.one (.i .i64 (i:Int)))/\(slot A8.tm 87=.one (.b false))/\(BJ A8 rn qc qv us.length qc il qb il us.length i (A8.nt=180/\A8.dfr=[]))->K3 A8 H8):=by
   clear t2 t4 t6 t9 t10 t45 t46 A0 B0 A hSj;rintro s4 j4 A H8 N5 hj8 f8 W4 U5 ⟨t11,t87,t2,t4,t6,t9,t10,t45,t46,A0,B0⟩;apply L7.out;by_cases O2:i+1=us.length
   ·have ce:(((i+1:Nat):Int)==(us.length:Int))=true:=by rw[O2];exact fl _
    rw[ad O2,gQ]at hT;replace O2:=ah O2;refine zW (qA tyF (RG H8 f8)) ?_;exact(next.out s4 j4 _ _ N5 hj8 f8 W4 (U5.trans hT.symm) zL).2
   have ce:(((i+1:Nat):Int)==(us.length:Int))=false:=aW aa;have I3:i+1<us.length:=aa;rw[ab O2,bW]at hT;rw[<-hT]at U5;clear hT;obtain⟨⟨p1,p2⟩,⟨p3,p4⟩,⟨p5,p6⟩,⟨p7,p8⟩⟩:=hmore I3;obtain⟨⟨c2,c3⟩,⟨v2,v3⟩,_⟩:=hSB (i+1) I3;obtain⟨ec3,ec4⟩:=ec (i+1) I3;obtain⟨ev3,ev4⟩:=evv (i+1) I3;have hw4:IntKind.i64.wrap (((i+1:Nat):Int)+1)=((i+1+1:Nat):Int):=by rw[aI aa aa];omega
   have x1:=bZ (cs.getD (i+1) 0*vs.getD (i+1) 0);have x2:=bZ (cs.getD (i+1) 0*vs.getD i 0);have x3:=bZ (n-cs.getD (i+1) 0*vs.getD (i+1) 0);have x4:=bZ (n-cs.getD (i+1) 0*vs.getD (i+1) 0+cs.getD (i+1) 0*vs.getD i 0);have x5:=bZ (cs.getD i 0*vs.getD i 0);have x6:=bZ (cs.getD i 0*vs.getD (i+1) 0);have x7:=bZ (n-cs.getD i 0*vs.getD i 0);have x8:=bZ (n-cs.getD i 0*vs.getD i 0+cs.getD i 0*vs.getD (i+1) 0);refine zW (zDf tyF (RG H8 f8) (ixC D0) (ixC I3) bR) ?_;generalize hT2:one (cs.getD (i+1) 0==0&&decide (0<cs.getD i 0)&&jL us (i+1) (cs.getD i 0)) (4,(us.getD (i+1) ([],0)).1,n-cs.getD i 0*vs.getD i 0+cs.getD i 0*vs.getD (i+1) 0)++R=T2 at U5;repeat refine R1.aM ?_
   refine R1.s_h ae λK3 L7=>?_;have rest:Hd (∀(s4:σ)(j4:Nat)(A8:ag)(H8:Hp),j4<=S.length->B.J j4 s4 H8->Fr (B.fp s) H6 H8->(∀k,B.fp s4 k->B.fp s k\/H6.nx<=k)->S.drop j4=T2->(slot A8.tm 134=.one (.b false))/\(BJ A8 rn qc qv us.length qc il qb il us.length i (eK A8 11 (.i .i64 (i:Int)) 180 []))->K3 A8 H8):=by
    clear t2 t4 t6 t9 t10 t11 t45 t46 t87 A0 B0 U5 hj8 N5 W4 f8 A H8 s4 j4;rintro s4 j4 A H8 N5 hj8 f8 W4 U5 ⟨t134,t2,t4,t6,t9,t10,t45,t46,t11,A0,B0⟩;apply L7.out;refine zW (zDf tyF (RG H8 f8) (ixC D0) (ixC I3) bR) ?_;rw[<-hT2]at U5;repeat refine R1.aM ?_
    refine R1.s_h ae λK3 L7=>?_;have rest:Hd (∀(s4:σ)(j4:Nat)(A8:ag)(H8:Hp),j4<=S.length->B.J j4 s4 H8->Fr (B.fp s) H6 H8->(∀k,B.fp s4 k->B.fp s k\/H6.nx<=k)->S.drop j4=R->(slot A8.tm 178=.one (.b false))/\(BJ A8 rn qc qv us.length qc il qb il us.length i (eK A8 11 (.i .i64 (i:Int)) 180 []))->K3 A8 H8):=by clear t2 t4 t6 t9 t10 t11 t45 t46 t134 A0 B0 U5 hj8 N5 W4 f8 A H8 s4 j4;rintro s4 j4 A H8 N5 hj8 f8 W4 U5 ⟨t178,t2,t4,t6,t9,t10,t45,t46,t11,A0,B0⟩;apply L7.out;refine zW tyF ?_;exact(next.out s4 j4 _ _ N5 hj8 f8 W4 U5 zL).1
    have bad:Hd (∀(s4:σ)(A8:ag)(H8:Hp),B.F s4 H8->Fr (B.fp s) H6 H8->(∀k,B.fp s4 k->B.fp s k\/H6.nx<=k)->eK A8 178 (.b true) 180 []->K3 A8 H8):=by clear t2 t4 t6 t9 t10 t11 t45 t46 A0 B0;rintro s4 A8 H8 h1 h2 h3 ⟨t178,A0,B0⟩;apply L7.out;refine zW tyF ?_;exact stop.out s4 _ _ h1 h2 h3 qe
    clear L7;by_cases hC1:cs.getD (i+1) 0=0
    case neg=>have eC1:(cs.getD (i+1) 0==0)=false:=aW hC1;rw[eC1,Bool.false_and,Bool.false_and]at U5;refine zS (zDf tyF (RG H8 f8) (ixC D0) (ixC I3) bR) ?_;exact rest.out s4 j4 _ _ N5 hj8 f8 W4 (gk U5) ⟨zL,zL⟩
    have eC1:=beq_iff_eq.2 hC1;replace hC1:=ah hC1;rw[eC1,Bool.true_and]at U5;by_cases hC2:0<cs.getD i 0
    case neg=>rw[aV hC2,Bool.false_and]at U5;refine zS (zDf tyF (RG H8 f8) (ixC D0) (ixC I3) bR) ?_;exact rest.out s4 j4 _ _ N5 hj8 f8 W4 (gk U5) ⟨zL,zL⟩
    rw[aL hC2,Bool.true_and]at U5;refine zS (zDg yk tyF (RG H8 f8) (ixC D0) (ixC I3) bR) ?_;refine WE.con (vI H8 us cs nm u _ qc il (i+1) (cs.getD i 0) (huS H8 f8) (hcS H8 f8) W0.out I3 aa (RG H8 f8).2.2.2.1.2 (RG H8 f8).2.1.2 (RG H8 f8).2.2.2.1.1 (RG H8 f8).2.1.1) λw' Hr gr hq=>?_;subst hq;have fR:=f8.gr gr;have hjR:=B.hJ hj8 gr.nx λk hk=>gr.get k hk aF;cases hB:jL us (i+1) (cs.getD i 0)with
    |false=>rw[hB]at U5;refine zS (zDf tyF (RG Hr fR) (ixC D0) (ixC I3) bR) ?_;exact rest.out s4 j4 _ _ N5 hjR fR W4 (gk U5) ⟨zL,zL⟩
    |true=>
     rw[hB]at U5;refine zS (zDg uB tyF (RG Hr fR) (ixC D0) (ixC I3) bR) ?_;obtain⟨l6,R3⟩:=drop_one U5;refine WE.con (ri B s4 j4 Hr us nm u qb il 4 (i+1) (n-cs.getD i 0*vs.getD i 0+cs.getD i 0*vs.getD (i+1) 0) hjR (huS Hr fR) I3 aa (RG Hr fR).1.2 (RG Hr fR).2.1.2 (RG Hr fR).1.1 (RG Hr fR).2.1.1 l6) λw' Hp0 fp0⟨b,s3,hq,Z6,s7,E7⟩=>?_;subst hq;have fP:=fR.then fp0 λk hk=>(W4 k hk).symm;have m6:∀k,B.fp s3 k->B.fp s k\/H6.nx<=k:=λk hk=>(E7 k hk).elim (λh=>W4 k h) λh=>.inr (aD fR.nx h);have D6:(if okN (n-cs.getD i 0*vs.getD i 0+cs.getD i 0*vs.getD (i+1) 0)=true then j4+1 else j4)<=S.length:=by
      cases G0:okN (n-cs.getD i 0*vs.getD i 0+cs.getD i 0*vs.getD (i+1) 0)with
      |true=>have:=(List.getElem?_eq_some_iff.1 (l6 G0)).1;rw[ad rfl];exact this
      |false=>rw[ab zA8];exact N5
     generalize(if okN (n-cs.getD i 0*vs.getD i 0+cs.getD i 0*vs.getD (i+1) 0)=true then j4+1 else j4)=jP at R3 Z6 D6
     cases b with
     |false=>refine zS (tyF) ?_;exact bad.out s3 _ _ (s7 rfl) fP m6 ⟨zL,zL,zL⟩
     |true=>replace Z6:=Z6 rfl;clear s7 l6;refine zS (zDf tyF (RG Hp0 fP) (ixC D0) (ixC I3) bR) ?_;exact rest.out s3 jP _ _ D6 Z6 fP m6 R3 ⟨zL,zL⟩
   have bad:Hd (∀(s4:σ)(A8:ag)(H8:Hp),B.F s4 H8->Fr (B.fp s) H6 H8->(∀k,B.fp s4 k->B.fp s k\/H6.nx<=k)->eK A8 134 (.b true) 180 []->K3 A8 H8):=by clear t2 t4 t6 t9 t10 t11 t45 t46 A0 B0;rintro s4 A8 H8 h1 h2 h3 ⟨t134,A0,B0⟩;apply L7.out;refine zW tyF ?_;exact stop.out s4 _ _ h1 h2 h3 qe
   clear L7;by_cases hC1:cs.getD i 0=0
   case neg=>have eC1:(cs.getD i 0==0)=false:=aW hC1;rw[eC1,Bool.false_and,Bool.false_and]at U5;refine zS (zDf tyF (RG H8 f8) (ixC D0) (ixC I3) bR) ?_;exact rest.out s4 j4 _ _ N5 hj8 f8 W4 (gk U5) ⟨zL,zL⟩
   have eC1:=beq_iff_eq.2 hC1;replace hC1:=ah hC1;rw[eC1,Bool.true_and]at U5;by_cases hC2:0<cs.getD (i+1) 0
   case neg=>rw[aV hC2,Bool.false_and]at U5;refine zS (zDf tyF (RG H8 f8) (ixC D0) (ixC I3) bR) ?_;exact rest.out s4 j4 _ _ N5 hj8 f8 W4 (gk U5) ⟨zL,zL⟩
   rw[aL hC2,Bool.true_and]at U5;refine zS (zDg yk tyF (RG H8 f8) (ixC D0) (ixC I3) bR) ?_;refine WE.con (vI H8 us cs nm u _ qc il i (cs.getD (i+1) 0) (huS H8 f8) (hcS H8 f8) W0.out D0 aa (RG H8 f8).2.2.2.1.2 (RG H8 f8).2.1.2 (RG H8 f8).2.2.2.1.1 (RG H8 f8).2.1.1) λw' Hr gr hq=>?_;subst hq;have fR:=f8.gr gr;have hjR:=B.hJ hj8 gr.nx λk hk=>gr.get k hk aF;cases hB:jL us i (cs.getD (i+1) 0)with
   |false=>rw[hB]at U5;refine zS (zDf tyF (RG Hr fR) (ixC D0) (ixC I3) bR) ?_;exact rest.out s4 j4 _ _ N5 hjR fR W4 (gk U5) ⟨zL,zL⟩
   |true=>
    rw[hB]at U5;refine zS (zDg uB tyF (RG Hr fR) (ixC D0) (ixC I3) bR) ?_;obtain⟨l6,R3⟩:=drop_one U5;refine WE.con (ri B s4 j4 Hr us nm u qb il 3 i (n-cs.getD (i+1) 0*vs.getD (i+1) 0+cs.getD (i+1) 0*vs.getD i 0) hjR (huS Hr fR) D0 aa (RG Hr fR).1.2 (RG Hr fR).2.1.2 (RG Hr fR).1.1 (RG Hr fR).2.1.1 l6) λw' Hp0 fp0⟨b,s3,hq,Z6,s7,E7⟩=>?_;subst hq;have fP:=fR.then fp0 λk hk=>(W4 k hk).symm;have m6:∀k,B.fp s3 k->B.fp s k\/H6.nx<=k:=λk hk=>(E7 k hk).elim (λh=>W4 k h) λh=>.inr (aD fR.nx h);have D6:(if okN (n-cs.getD (i+1) 0*vs.getD (i+1) 0+cs.getD (i+1) 0*vs.getD i 0)=true then j4+1 else j4)<=S.length:=by
     cases G0:okN (n-cs.getD (i+1) 0*vs.getD (i+1) 0+cs.getD (i+1) 0*vs.getD i 0)with
     |true=>have:=(List.getElem?_eq_some_iff.1 (l6 G0)).1;rw[ad rfl];exact this
     |false=>rw[ab zA8];exact N5
    generalize(if okN (n-cs.getD (i+1) 0*vs.getD (i+1) 0+cs.getD (i+1) 0*vs.getD i 0)=true then j4+1 else j4)=jP at R3 Z6 D6
    cases b with
    |false=>refine zS (tyF) ?_;exact bad.out s3 _ _ (s7 rfl) fP m6 ⟨zL,zL,zL⟩
    |true=>replace Z6:=Z6 rfl;clear s7 l6;refine zS (zDf tyF (RG Hp0 fP) (ixC D0) (ixC I3) bR) ?_;exact rest.out s3 jP _ _ D6 Z6 fP m6 R3 ⟨zL,zL⟩
  have bad:Hd (∀(s4:σ)(A8:ag)(H8:Hp),B.F s4 H8->Fr (B.fp s) H6 H8->(∀k,B.fp s4 k->B.fp s k\/H6.nx<=k)->eK A8 87 (.b true) 180 []->K3 A8 H8):=by clear t2 t4 t6 t9 t10 t45 t46 A0 B0;rintro s4 A8 H8 h1 h2 h3 ⟨t87,A0,B0⟩;apply L7.out;refine zW tyF ?_;exact stop.out s4 _ _ h1 h2 h3 qe
  clear L7;by_cases hA:0<cs.getD i 0
  ·have eA:decide (0<cs.getD i 0)=true:=aL hA;rw[eA]at hSj;refine zS (zDf tyF (RG H7 f7) uB (ixC D0) bR) ?_;obtain⟨l6,R3⟩:=drop_one hSj;refine WE.con (ri B s2 j H7 us nm u qb il 1 i (n-vs.getD i 0) hj7 (huS H7 f7) D0 aa (RG H7 f7).1.2 (RG H7 f7).2.1.2 (RG H7 f7).1.1 (RG H7 f7).2.1.1 l6) λw' Hp0 fp0⟨b,s3,hq,Z6,s7,E7⟩=>?_;subst hq;have fP:=f7.then fp0 λk hk=>(M6 k hk).symm;have m6:∀k,B.fp s3 k->B.fp s k\/H6.nx<=k:=λk hk=>(E7 k hk).elim (λh=>M6 k h) λh=>.inr (aD f7.nx h);have D6:(if okN (n-vs.getD i 0)=true then j+1 else j)<=S.length:=by
    cases G0:okN (n-vs.getD i 0)with
    |true=>have:=(List.getElem?_eq_some_iff.1 (l6 G0)).1;rw[ad rfl];exact this
    |false=>rw[ab zA8];exact hjS
   generalize(if okN (n-vs.getD i 0)=true then j+1 else j)=jP at R3 Z6 D6
   cases b with
   |false=>refine zS (tyF) ?_;exact bad.out s3 _ _ (s7 rfl) fP m6 ⟨zL,zL,zL⟩
   |true=>
    replace Z6:=Z6 rfl;clear s7 l6;refine zS (zDf tyF (RG Hp0 fP) yk (ixC D0) bR) ?_;refine WE.con (vI Hp0 us cs nm u _ qc il i (cs.getD i 0+1) (huS Hp0 fP) (hcS Hp0 fP) W0.out D0 aa (RG Hp0 fP).2.2.2.1.2 (RG Hp0 fP).2.1.2 (RG Hp0 fP).2.2.2.1.1 (RG Hp0 fP).2.1.1) λw' Hr gr hq=>?_;subst hq;have fR:=fP.gr gr;have hjR:=B.hJ Z6 gr.nx λk hk=>gr.get k hk aF;cases hB:jL us i (cs.getD i 0+1)with
    |false=>rw[hB]at R3;refine zS (qA tyF (RG Hr fR)) ?_;exact rest.out s3 jP _ _ D6 hjR fR m6 (gk R3) ⟨zL,zL,zL⟩
    |true=>
     rw[hB]at R3;refine zS (zDf tyF (RG Hr fR) uB (ixC D0) bR) ?_;obtain⟨l6,R3⟩:=drop_one R3;refine WE.con (ri B s3 jP Hr us nm u qb il 2 i (n+vs.getD i 0) hjR (huS Hr fR) D0 aa (RG Hr fR).1.2 (RG Hr fR).2.1.2 (RG Hr fR).1.1 (RG Hr fR).2.1.1 l6) λw' Hp0 fp0⟨b,s3,hq,Z6,s7,E7⟩=>?_;subst hq;have fP:=fR.then fp0 λk hk=>(m6 k hk).symm;have m6:∀k,B.fp s3 k->B.fp s k\/H6.nx<=k:=λk hk=>(E7 k hk).elim (λh=>m6 k h) λh=>.inr (aD fR.nx h);have D6:(if okN (n+vs.getD i 0)=true then jP+1 else jP)<=S.length:=by
      cases G0:okN (n+vs.getD i 0)with
      |true=>have:=(List.getElem?_eq_some_iff.1 (l6 G0)).1;rw[ad rfl];exact this
      |false=>rw[ab zA8];exact D6
     generalize(if okN (n+vs.getD i 0)=true then jP+1 else jP)=jP at R3 Z6 D6
     cases b with
     |false=>refine zS (tyF) ?_;exact bad.out s3 _ _ (s7 rfl) fP m6 ⟨zL,zL,zL⟩
     |true=>replace Z6:=Z6 rfl;clear s7 l6;refine zS (qA tyF (RG Hp0 fP)) ?_;exact rest.out s3 jP _ _ D6 Z6 fP m6 R3 ⟨zL,zL,zL⟩
  have eA:decide (0<cs.getD i 0)=false:=aV hA;rw[eA]at hSj;replace hSj:=gk hSj;refine zS (zDf tyF (RG H7 f7) yk (ixC D0) bR) ?_;refine WE.con (vI H7 us cs nm u _ qc il i (cs.getD i 0+1) (huS H7 f7) (hcS H7 f7) W0.out D0 aa (RG H7 f7).2.2.2.1.2 (RG H7 f7).2.1.2 (RG H7 f7).2.2.2.1.1 (RG H7 f7).2.1.1) λw' Hr gr hq=>?_;subst hq;have fR:=f7.gr gr;have hjR:=B.hJ hj7 gr.nx λk hk=>gr.get k hk aF;cases hB:jL us i (cs.getD i 0+1)with
  |false=>rw[hB]at hSj;refine zS (qA tyF (RG Hr fR)) ?_;exact rest.out s2 j _ _ hjS hjR fR M6 (gk hSj) ⟨zL,zL,zL⟩
  |true=>
   rw[hB]at hSj;refine zS (zDf tyF (RG Hr fR) uB (ixC D0) bR) ?_;obtain⟨l6,R3⟩:=drop_one hSj;refine WE.con (ri B s2 j Hr us nm u qb il 2 i (n+vs.getD i 0) hjR (huS Hr fR) D0 aa (RG Hr fR).1.2 (RG Hr fR).2.1.2 (RG Hr fR).1.1 (RG Hr fR).2.1.1 l6) λw' Hp0 fp0⟨b,s3,hq,Z6,s7,E7⟩=>?_;subst hq;have fP:=fR.then fp0 λk hk=>(M6 k hk).symm;have m6:∀k,B.fp s3 k->B.fp s k\/H6.nx<=k:=λk hk=>(E7 k hk).elim (λh=>M6 k h) λh=>.inr (aD fR.nx h);have D6:(if okN (n+vs.getD i 0)=true then j+1 else j)<=S.length:=by
    cases G0:okN (n+vs.getD i 0)with
    |true=>have:=(List.getElem?_eq_some_iff.1 (l6 G0)).1;rw[ad rfl];exact this
    |false=>rw[ab zA8];exact hjS
   generalize(if okN (n+vs.getD i 0)=true then j+1 else j)=jP at R3 Z6 D6
   cases b with
   |false=>refine zS (tyF) ?_;exact bad.out s3 _ _ (s7 rfl) fP m6 ⟨zL,zL,zL⟩
   |true=>replace Z6:=Z6 rfl;clear s7 l6;refine zS (qA tyF (RG Hp0 fP)) ?_;exact rest.out s3 jP _ _ D6 Z6 fP m6 R3 ⟨zL,zL,zL⟩
 have U2:i=us.length:=aa;refine zW tyF ?_;apply k2.out;have hjl:B.J S.length s2 H7:=by have h:=hSj.out;have e:(List.range us.length).drop i=[]:=Gy (by rw[wj];omega);rw[e,List.flatMap_nil]at h;have h2:=congrArg List.length h;rw[iZ,List.length_nil]at h2;have h3:j=S.length:=aa;exact h3▸hj7
 exact fin .normal (.inl rfl) s2 H7 _ (.inl hjl) f7 M6 qe
def yj:aq prog 52=true:=ae
def xe(H:Hp)(n u:AC)(m:Int)(hu:ltV (.one u) H.nx):
  Con E2 40 [.agg [n,u],.one (.i .i64 m)] H (λ_=>False) λr H'=>r=.one (.o (.clo 65 [(H.nx,0,0,2),(H.nx+1,0,0,1)]))/\H'.get H.nx=some (.arr [n,u] 51 0 0)/\H'.get (H.nx+1)=some (.arr [.i .i64 m] 3 0 0)/\H.nx+1<H'.nx:=by
 refine Con.Iw (λH=>ltV (.one u) H.nx) hu λH e hu=>?_;rw[<-e];clear e;refine C1.fK 6 [.tmp 4] Tryz.func40 λtm h0 h1=>?_;refine zW tyF ?_;refine⟨_,_,au (.o (.clo 65 [(H.nx,0,0,2),(H.nx+1,0,0,1)])) (.inr rfl) qe qp,((Fr.refl _).new _).new _,λ_=>⟨rfl,?_,?_,?_⟩⟩
 ·show((H.new _).new _).get H.nx=_;rw[bu (by show H.nx<H.nx+1;omega)];exact aJ rfl
 ·show((H.new _).new _).get (H.nx+1)=_;exact aJ rfl
 show H.nx+1<H.nx+1+1;omega
def gI:List Sp->Int->Int
 |[],_=>0
 |x::S,m=>if x.2.2=m then x.1 else gI S m
def IM(H:Hp)(nm:List UInt8)(u:AC)(us:List Pr)(m n:Int)(hu:SlP H u us)(N0:aR nm us=0)(C5:1<=n)(E4:n<=1099511627776)(hSB:KM us (aC us n) (dG nm us)):
  Con E2 52 [.agg [.o (.str nm),u],.one (.i .i64 m),.one (.i .i64 n)] H (λ_=>False) λr _=>r=.one (.i .i64 (gI (dI us (aC us n) (dG nm us) n) m)):=by
 refine Con.qw (λH=>SlP H u us) hu λH hu=>?_;refine C1.HA 18 [.cell 6 3] Tryz.func52 λtm h0 h1 h2=>?_;have J3:∀id∈(AV.one u).ids,id<H.nx:=hu.lt;generalize E0:gI (dI us (aC us n) (dG nm us) n) m=r0;refine zG tyF λK hK=>?_;apply hK.out;refine R1.gen (λA1 H1=>Gr H H1/\H.nx+2<H1.nx/\H1.get H.nx=some (.arr [.o (.str nm),u] 51 0 0)/\H1.get (H.nx+1)=some (.arr [.i .i64 m] 3 0 0)/\H1.get (H.nx+1+1)=some (.arr [.i .i64 0] 3 0 0)/\eJ A1 n (slot A1.tm 3=.one (.o (.ptr H.nx 0 0 2))/\jb A1 (H.nx+1) (eK A1 6 (.o (.ptr (H.nx+1+1) 0 0 1)) 18 [])))
  ⟨(((Fr.refl _).new _).new _).new _,by show H.nx+2<H.nx+1+1+1;omega,by rw[bu (by show H.nx<H.nx+1+1;omega),bu (by show H.nx<H.nx+1;omega)];exact aJ rfl,by rw[bu (by show H.nx+1<H.nx+1+1;omega)];exact aJ rfl,aJ rfl,zL⟩ ?_
 clear h0 h1 h2 tm hK K;rintro A1 H1 ⟨g1,n1,r1,r2,r3,t2,t3,t4,t6,A0,B0⟩;have V2:SlP H1 u us:=hu.gr g1;obtain⟨c1,hc1⟩:=dZ H.nx;obtain⟨c2,o8⟩:∃c,c=H.nx+1:=⟨_,rfl⟩;obtain⟨c3,o7⟩:∃c,c=H.nx+1+1:=⟨_,rfl⟩;rw[<-o7]at r3 t6;rw[<-o8]at r2 t4;rw[<-hc1]at r1 t3 J3;have o12:c1<c2:=aa;have o23:c2<c3:=aa;have o3:c3<H1.nx:=aa;have Z2:H.nx<=c1:=aa;clear o7 o8 hc1 n1;have l1:c1<H1.nx:=aa;have l2:c2<H1.nx:=aa;have fin:∀(e:ax)(A:ag)(H2 H3:Hp),(e=.normal\/e=.ret)->closeAll H2 A.dfr=some H3->Gr H H3->slot A.tm 6=.one (.o (.ptr c3 0 0 1))->H3.get c3=some (.arr [.i .i64 r0] 3 0 0) ->
   ∃w H4,aH E2 [.cell 6 3] (e,A,H2)=.ok [(w,H4)]/\Gr H H4/\∀_:List Nat,w=.one (.i .i64 r0):=λe A H2 H3 he hd hg hs hr=>
  ⟨_,H3,uF (c:=.i .i64 r0) cA he hd hs (by rw[hr];exact de (ai _) (ai _)) (ai _) (ai _) rfl,hg,λ_=>rfl⟩
 have hlu:ltV (.one u) H1.nx:=V2.lt;replace E0:=ah E0;refine zG (qA tyF zT) λK hK=>?_;refine WE.con (xe H1 (.o (.str nm)) u n V2.lt) λv H5 g5⟨hv,Z4,X6,hln⟩=>?_;subst hv;refine zS tyF ?_;apply hK.out;refine R1.lp (λA4=>slot A4.tm 3=.one (.o (.ptr c1 0 0 2))/\jb A4 c2 (kO A4 6 10 (.o (.ptr c3 0 0 1)) (.o (.clo 65 [(H1.nx,0,0,2),(H1.nx+1,0,0,1)])) 18 [])) zL ?_;clear t2 t3 t4 t6 A0 B0 A1 hK K;rintro A ⟨t3,t4,t6,t10,A0,B0⟩;have gg:Gr H H5:=g1.gr g5;have r2:=(g5.get _ l2 aF).trans r2;have r3:=(g5.get _ o3 aF).trans r3;have R5:SlP H5 u us:=V2.gr g5;obtain⟨il,w8⟩:=dZ H1.nx;rw[<-w8]at Z4 X6 hln t10 o3 l1 l2;clear w8 hlu r1;generalize hS:dI us (aC us n) (dG nm us) n=S at E0;refine R1.bJ λK k1 k2 k3 k4=>?_;refine R1.range (σ:=Unit) (g:=65) (caps:=[(il,0,0,2),(il+1,0,0,1)]) (n:=S.length) (ar:=slA S) (D:=λk=>k=il\/k=il+1\/k∈(AV.one u).ids) (by simp only[Ar,t10]) wB (λ_=>rfl)
  (xd H5 il (il+1) nm u us n aa Z4 hln X6 R5 N0 C5 E4 _ _ rfl rfl hSB S hS) (λk hk=>by
   rcases hk with h|h|h
   ·omega
   ·omega
   exact sI (J3 k h) aa) (by rw[A0];rfl) (λi _=>Ge S i)
  (λi _ H6=>H6.get c2=some (.arr [.i .i64 m] 3 0 0)/\H6.get c3=some (.arr [.i .i64 0] 3 0 0)/\Hd (gI (S.drop i) m=r0)/\H5.nx<=H6.nx)
  (λe _ H6=>e=.ret/\H6.get c3=some (.arr [.i .i64 r0] 3 0 0)/\H5.nx<=H6.nx)
  (λ_ k=>k=c3) ?_ ?_ ?_ () ?_ ?_ ?_ ?_
 ·rintro i _ H6 H7 ⟨a1,a2,a4,a5⟩ hs;exact⟨by rw[hs.get _ aa aa];exact a1,by rw[hs.get _ aa aa];exact a2,a4,aD a5 hs.nx⟩
 ·rintro e _ H6 H7 ⟨a1,a2,a5⟩ hs;exact⟨a1,by rw[hs.get _ aa aa];exact a2,aD a5 hs.nx⟩
 ·rintro i _ H6 k ⟨a1,a2,a4,a5⟩ rfl;refine⟨aa,aa,aa,λh=>?_⟩;rcases h with h|h|h
  ·omega
  ·omega
  have:=J3 _ h;omega
 ·intro H6 g6 n6;exact⟨by rw[g6.get _ aa aF];exact r2,by rw[g6.get _ aa aF];exact r3,by rw[List.drop_zero];exact E0,g6.nx⟩
 ·rintro i _ H6 hi ⟨a1,a2,a4,a5⟩ n6;have hy:=aO hi;have S0:=List.drop_eq_getElem_cons hi;generalize S[i]=y at hy S0;replace a4:=a4.out;rw[S0,gI]at a4;rw[Gd hy];obtain⟨kd,sg,nn⟩:=y;refine R1.lp (λA7=>jb A7 c2 (slot A7.tm 6=.one (.o (.ptr c3 0 0 1))/\slot A7.tm 11=.agg [.i .i64 kd,.o (.str sg),.i .i64 nn]/\A7.nt=18/\A7.dfr=[])) ⟨?_,?_,?_,A0,rfl⟩ ?_
  ·show slot (A.tm.set 11 _) 4=_;simp only[cJ,Nat.reduceEqDiff,reduceIte,t4]
  ·show slot (A.tm.set 11 _) 6=_;simp only[cJ,Nat.reduceEqDiff,reduceIte,t6]
  ·show slot (A.tm.set 11 _) 11=_;simp only[cJ,Nat.reduceEqDiff,reduceIte];rfl
  clear t3 t4 t6 t10 A0 B0 r2 r3;rintro A7 ⟨t4,t6,t11,A0,B0⟩;replace hS:=ah hS;replace a4:=ah a4;clear S0 hy;refine zW tyF ?_;refine⟨rfl,((Fr.refl _).new _).mod _ (.inl (ai _)),λH8 n8 s8=>?_⟩;have gu:H8.get H6.nx=some (.arr [.i .i64 kd,.o (.str sg),.i .i64 nn] 63 0 0):=by rw[s8.get _ (by show H6.nx<H6.nx+1;omega) aa];exact ao rfl
  have keep:∀k,k<H5.nx->H8.get k=H6.get k:=λk hk=>by rw[s8.get _ (by show k<H6.nx+1;omega) aa,az aa,bu aa]
  have n8':H8.nx=H6.nx+1:=n8;have b2:H8.get c2=some (.arr [.i .i64 m] 3 0 0):=(keep c2 aa).trans a1;have b3:H8.get c3=some (.arr [.i .i64 0] 3 0 0):=(keep c3 aa).trans a2;have lu:H6.nx<H8.nx:=aa;have m2:c2<H8.nx:=aa;have m3:c3<H8.nx:=aa;have m5:H5.nx<=H8.nx:=aa;clear keep n8 n8' a1 a2 s8;refine R1.mh λK2 p1 p2 p3 p4=>?_;by_cases Y5:nn=m
  ·have e4:=a4.out;rw[ad Y5]at e4;replace e4:kd=r0:=e4;clear a4;have cs:=beq_iff_eq.2 Y5;replace Y5:=ah Y5;replace e4:=ah e4;refine zW tyF ?_;refine p4 _ _ ⟨qe,(Fr.refl _).mod _ (.inr (.inl rfl)),(),λh=>(by cases h),λ_=>⟨rfl,?_,m5⟩,λk hk=>.inl hk⟩;rw[<-e4.out];exact ao rfl
  have e4:=a4.out;rw[ab Y5]at e4;clear a4;have cs:(nn==m)=false:=aW Y5;replace Y5:=ah Y5;replace e4:=ah e4;refine zW tyF ?_;refine p1 _ _ ⟨qe,Fr.refl _,(),λ_=>⟨b2,b3,e4,m5⟩,λh=>absurd rfl h,λk hk=>.inl hk⟩
 ·rintro s' H6 ⟨a1,a2,a4,a5⟩ n6 hd6 hf6 M6;have g6:Gr H H6:=gg.then hf6 λk hk=>.inl (by rcases hk with rfl;omega);have m3:c3<H6.nx:=aa;replace a4:=a4.out;rw[dD,gI]at a4;refine k1 _ _ ?_;refine R1.lp (λA7=>slot A7.tm 6=.one (.o (.ptr c3 0 0 1))/\A7.nt=18/\A7.dfr=[H5.nx]) ⟨t6,A0,by show H5.nx::A.dfr=_;rw[B0]⟩ ?_;clear t3 t4 t6 t10 A0 B0 r2 r3;rintro A7 ⟨t6,A0,B0⟩;replace hS:=ah hS;replace a4:=ah a4;refine zW tyF ?_;refine fin .ret _ _ _ (.inr rfl) (by simp only[aS,B0];exact fg (by rw[az aa];exact hd6)) ((g6.mod _ (.inl aa)).mod _ (.inl (by have:=gg.nx;omega))) t6 (by rw[az aa,<-a4.out];exact ao rfl)
 rintro e s' H6 I1 ⟨rfl,a2,a5⟩ n6 hd6 hf6 M6;have g6:Gr H H6:=gg.then hf6 λk hk=>.inl (by rcases hk with rfl;omega);exact k4 _ _ (fin .ret _ _ _ (.inr rfl) (by show closeAll H6 (H5.nx::A.dfr)=_;rw[B0];exact fg hd6) (g6.mod _ (.inl (by have:=gg.nx;omega))) t6 (by rw[az aa];exact a2))
def As:∀(us:List Pr)(ds:List Int)(i:Nat)(d:Int),ds.length=us.length->i<us.length->evH us (ds.set i d)=evH us ds+(d-ds.getD i 0)*vW us i
 |[],_,i,_,_,hi=>absurd hi (Nat.not_lt_zero i)
 |_::_,[],_,_,h,_=>by cases h
 |[x],c::ds,i,d,h,hi=>by
  have:i=0:=by simp at hi;omega
  subst this;show d=c+(d-c)*1;omega
 |x::y::l,c::ds,0,d,h,hi=>by show d+y.2*evH (y::l) ds=c+y.2*evH (y::l) ds+(d-c)*1;omega
 |x::y::l,c::ds,i+1,d,h,hi=>by rw[List.set_cons_succ,evH,evH,As (y::l) ds i d (by simpa using h) (by simp at hi |-;omega),List.getD_cons_succ,vW,Int.mul_add,Int.add_assoc,Int.mul_left_comm]
def Pf:∀(us:List Pr)(i:Nat),i+1<us.length->vW us (i+1)=vW us i*(us.getD (i+1) ([],0)).2
 |[],i,h=>absurd h (Nat.not_lt_zero _)
 |[_],i,h=>absurd h (by simp)
 |x::y::l,0,_=>by show y.2*1=1*y.2;omega
 |x::y::l,i+1,h=>by rw[vW,Pf (y::l) i (by simp at h |-;omega),vW,Int.mul_assoc];rfl
def Mu:∀(us:List Pr)(i:Nat),i<us.length->(∀x∈us,1<=x.2)->1<=vW us i
 |_,0,_,_=>by rw[vW];omega
 |[],i+1,h,_=>absurd h (Nat.not_lt_zero _)
 |[_],i+1,h,_=>absurd h (by simp)
 |x::y::l,i+1,h,hf=>by rw[vW];have h1:=Mu (y::l) i (by simp at h |-;omega) λz hz=>hf z (aU _ hz);have h2:=hf y (by simp);have:=wk h2 h1 aa aa;omega
def YC:∀(us:List Pr)(ds:List Int),tk us ds->(∀x∈us,1<=x.2)->0<=evH us ds/\∀i,i<us.length->ds.getD i 0*vW us i<=evH us ds
 |[],[],_,_=>⟨mT _,λi hi=>absurd hi (Nat.not_lt_zero i)⟩
 |[],_::_,h,_=>by cases h.1
 |[_],[],h,_=>by cases h.1
 |[x],[d],h,_=>⟨(h.2 0 (by simp)).1,λi hi=>by
  have:i=0:=by simp at hi;omega
  subst this;show d*1<=d;omega⟩
 |[_],_::_::_,h,_=>by cases h.1
 |_::_::_,[],h,_=>by cases h.1
 |x::y::l,d::ds,h,hf=>by
  obtain⟨h0,h1,h2⟩:=h.tl;obtain⟨e0,e1⟩:=YC (y::l) ds h2 λz hz=>hf z (aU _ hz);have hy:=hf y (by simp);have e2:0<=y.2*evH (y::l) ds:=Int.mul_nonneg aa e0;rw[evH];refine⟨aa,λi hi=>?_⟩;cases i with
  |zero=>show d*1<=_;omega
  |succ i=>have e3:=e1 i (by simp at hi |-;omega);rw[List.getD_cons_succ,vW,Int.mul_left_comm];have:=wm e3 (show 0<=y.2 by omega);omega
def YU:∀(v:Int)(x:Pr)(l:List Pr)(i:Nat)(y:Pr×Int),(yv v (x::l)).length=(x::l).length->(yv v (x::l))[i]?=some y->y.2=v*x.2*vW (x::l) i/\y.2<=1099511627776
 |v,x,l,i,y,h,hy=>by
  rw[yv]at h hy;by_cases hb:x.2<1\/60<x.2\/1099511627776<v*x.2
  ·rw[ad hb]at hy;simp at hy
  rw[ab hb]at h hy;cases i with
  |zero=>
   rw[List.getElem?_cons_zero]at hy;cases hy
   rw[vW];exact⟨by show v*x.2=_;omega,by show v*x.2<=_;omega⟩
  |succ i=>
   rw[List.getElem?_cons_succ]at hy;cases l with
   |nil=>rw[yv]at hy;simp at hy
   |cons z l=>obtain⟨e1,e2⟩:=YU (v*x.2) z l i y (by simpa using h) hy;exact⟨by rw[e1,vW,Int.mul_assoc (v*x.2)],e2⟩
def vT{nm:List UInt8}{us:List Pr}(N0:aR nm us=0){i:Nat}(hi:i<us.length):(dG nm us).getD i 0=vW us i/\vW us i<=1099511627776:=by
 obtain⟨hL,hyl,hf⟩:=jg N0;have hx:=aO hi;have G0:gJ nm us=true:=by
  unfold aR at N0;by_cases h:gJ nm us=true
  ·exact h
  rw[ab h]at N0;cases N0
 have N4:=G0;rw[<-DW]at N4;unfold jo at N4;simp only[aT,rN,GK]at N4;have hr:=N4.1.2 i hi;have eg:us.getD i ([],0)=us[i]:=by rw[bt,hx];rfl
 rw[eg]at hr;unfold nZ at hr;simp only[aT,bB]at hr;have hid:=hr.2.1;have e1:(dG nm us).getD i 0=(sW nm us us[i].1).1:=by unfold dG;rw[bt,pf,hx];rfl
 rw[e1];unfold sW;rw[ab (λh=>h N0)];obtain⟨x,l,hxl,Y0⟩:=gj N0;rcases KC 0 1 us us[i].1 hyl with⟨h1,_⟩|⟨j,y,hj,h1,h2,h3⟩
 ·rw[hid]at h1;omega
 have:j=i:=by rw[hid]at h1;omega
 subst this;rw[h3];subst hxl;obtain⟨a,b⟩:=YU 1 x l j y hyl h2;rw[Y0,po,po]at a;exact⟨a,a▸b⟩
def yM{nm:List UInt8}{us:List Pr}(N0:aR nm us=0){n:Int}(C5:0<=n)(E4:n<=1099511627776):KM us (aC us n) (dG nm us):=by
 obtain⟨hL,hyl,hf⟩:=jg N0;have J7:∀x∈us,1<=x.2:=λx hx=>(hf x hx).1;obtain⟨x,l,hxl,Y0⟩:=gj N0;have hd:=nz us n C5 J7;have he:=qf us n (by rw[hxl];simp);have hg:=(YC us _ hd J7).2;rw[he]at hg;have key:∀i,i<us.length->0<=(aC us n).getD i 0/\(aC us n).getD i 0<=1099511627776/\(aC us n).getD i 0*vW us i<=1099511627776/\0<=(aC us n).getD i 0*vW us i:=λi hi=>by have a1:=(hd.2 i hi).1;have a2:=hg i hi;have a3:=Mu us i hi J7;have a4:=wm a3 a1;exact⟨a1,aa,aa,aa⟩
 intro i hi;obtain⟨k1,k2,k3,k4⟩:=key i hi;obtain⟨v1,v2⟩:=vT N0 hi;have v3:=Mu us i hi J7;rw[v1];refine⟨⟨k1,k2⟩,⟨aa,v2⟩,λI2=>?_⟩;obtain⟨l1,l2,l3,l4⟩:=key (i+1) I2;obtain⟨w1,w2⟩:=vT N0 I2;rw[w1];have hy:=hf (us.getD (i+1) ([],0)) (by rw[bt,aO I2];exact cU I2);have ws:=Pf us i I2;have s1:vW us i<=vW us (i+1):=by rw[ws];have:=wm hy.1 (show 0<=vW us i by omega);omega
 have s2:=wm s1 l1;have s3:(aC us n).getD i 0*vW us (i+1)=(aC us n).getD i 0*vW us i*(us.getD (i+1) ([],0)).2:=by rw[ws,Int.mul_assoc]
 have s4:=wm hy.2 k4;have s5:=Int.mul_nonneg k4 (show 0<=(us.getD (i+1) ([],0)).2 by omega);have s6:=Int.mul_nonneg l1 (show 0<=vW us i by omega);exact⟨⟨l4,l3⟩,⟨s6,aa⟩,⟨k4,k3⟩,aa,aa⟩
def WN(p:Nat->Bool):∀n:Nat,(∀j,j<n->p j=false)->(List.range n).filter p=[]
 |0,_=>rfl
 |n+1,h=>by rw[List.range_succ,we,WN p n λj hj=>h j aa,List.filter_cons,h n aa];rfl
def ZB(p:Nat->Bool)(i:Nat):∀n:Nat,i<n->(∀j,j<n->p j=decide (j=i))->(List.range n).filter p=[i]
 |0,h,_=>absurd h (Nat.not_lt_zero i)
 |n+1,hi,h=>by
  rw[List.range_succ,we,List.filter_cons,h n aa];by_cases he:n=i
  ·subst he;rw[WN p n λj hj=>by rw[h j aa];exact aV aa,aL rfl];rfl
  rw[ZB p i n aa λj hj=>h j aa,aV he];rfl
def aaS(p:Nat->Bool)(i:Nat):∀n:Nat,i+1<n->(∀j,j<n->p j=(decide (j=i)||decide (j=i+1)))->(List.range n).filter p=[i,i+1]
 |0,h,_=>absurd h (Nat.not_lt_zero _)
 |n+1,hi,h=>by
  rw[List.range_succ,we,List.filter_cons,h n aa];by_cases he:n=i+1
  ·subst he;rw[ZB p i (i+1) aa λj hj=>by rw[h j aa,aV (show¬j=i+1 by omega),Bool.or_false],aL rfl,Bool.or_true];rfl
  rw[aaS p i n aa λj hj=>h j aa,aV he,aV (show¬n=i by omega)];rfl
def ik(cs ds:List Int)(n:Nat):List Nat:=(List.range n).filter λi=>cs.getD i 0 != ds.getD i 0
def fX(cs ds:List Int):List Nat->Int
 |[a]=>if cs.getD a 0=ds.getD a 0+1 then 1 else if cs.getD a 0+1=ds.getD a 0 then 2 else 0
 |[a,b]=>if b=a+1 then(if ds.getD b 0=0/\1<=ds.getD a 0/\cs.getD a 0=0/\cs.getD b 0=ds.getD a 0 then 3 else if ds.getD a 0=0/\1<=ds.getD b 0/\cs.getD b 0=0/\cs.getD a 0=ds.getD b 0 then 4 else 0)else 0
 |_=>0
def dS(l:List Int)(i j:Nat)(d:Int)(hi:i<l.length):(l.set i d).getD j 0=if j=i then d else l.getD j 0:=by
 rw[bt,GB];by_cases h:i=j
 ·subst h;rw[ad rfl,ad hi,ad rfl];rfl
 rw[ab h,ab (λe=>h e.symm),bt]
def ZA{l k:List Int}(h:l.length=k.length)(he:∀j,j<l.length->l.getD j 0=k.getD j 0):l=k:=by
 apply List.ext_getElem? ;intro j;rcases cO j l.length with hj|hj
 ·have:=he j hj;rw[bt,bt,aO hj,aO (h▸hj)]at this;rw[aO hj,aO (h▸hj)];exact congrArg some this
 rw[iw hj,iw (h▸hj)]
def tk.set{us:List Pr}{ds:List Int}(h:tk us ds){i:Nat}{d:Int}(hi:i<us.length)(h0:0<=d)(h1:i+1<us.length->d<(us.getD (i+1) ([],0)).2):tk us (ds.set i d):=by
 have hl:=h.1;refine⟨by rw[fq];exact hl,λj hj=>?_⟩;rw[dS _ _ _ _ aa];by_cases e:j=i
 ·subst e;rw[ad rfl];exact⟨h0,h1⟩
 rw[ab e];exact h.2 j hj
def gE{us:List Pr}{i:Nat}{k:Int}(hi:i<us.length):jL us i k=true↔(i+1<us.length->k<(us.getD (i+1) ([],0)).2):=by
 unfold jL;rw[eW,gP,bB];constructor
 ·rintro(h|h) h2
  ·omega
  exact h
 intro h;rcases cO (i+1) us.length with h1|h1
 ·exact .inr (h h1)
 exact .inl aa
def ia{b:Bool}{x y:Sp}:y∈one b x↔b=true/\okN x.2.2=true/\y=x:=by
 unfold one;cases b with
 |false=>simp
 |true=>
  cases h:okN x.2.2 with
  |false=>simp
  |true=>simp
def IL{m k:Int}:∀{S:List Sp},(∀x∈S,x.2.2=m->x.1=k)->(k=0\/∃x∈S,x.2.2=m)->gI S m=k
 |[],_,h=>by
  rcases h with h|⟨x,hx,_⟩
  ·exact h.symm
  cases hx
 |x::S,h1,h2=>by
  rw[gI];by_cases h:x.2.2=m
  ·rw[ad h];exact h1 x (bh ..) h
  rw[ab h];refine IL (λy hy=>h1 y (aU _ hy)) ?_;rcases h2 with h2|⟨y,hy,e⟩
  ·exact .inl h2
  rcases List.mem_cons.1 hy with rfl|hy
  ·exact absurd e h
  exact .inr ⟨y,hy,e⟩
def PL{cs:List Int}{i n:Nat}{d:Int}(hl:cs.length=n)(hi:i<n)(hd:d≠cs.getD i 0):ik cs (cs.set i d) n=[i]:=by
 unfold ik;refine ZB _ i n hi λj hj=>?_;rw[dS _ _ _ _ aa];by_cases e:j=i
 ·subst e;rw[ad rfl,aL rfl];exact bne_iff_ne.2 λh=>hd h.symm
 rw[ab e,aV e];exact zf _
def PM{cs:List Int}{i n:Nat}{d e:Int}(hl:cs.length=n)(hi:i+1<n)(hd:d≠cs.getD i 0)(he:e≠cs.getD (i+1) 0):ik cs ((cs.set i d).set (i+1) e) n=[i,i+1]:=by
 unfold ik;refine aaS _ i n hi λj hj=>?_;rw[dS _ _ _ _ (by rw[fq];omega),dS _ _ _ _ aa];by_cases h1:j=i+1
 ·subst h1;rw[ad rfl,aL (show i+1=i+1 from rfl),Bool.or_true];exact bne_iff_ne.2 λh=>he h.symm
 rw[ab h1,aV h1,Bool.or_false];by_cases h:j=i
 ·subst h;rw[ad rfl,aL rfl];exact bne_iff_ne.2 λh=>hd h.symm
 rw[ab h,aV h];exact zf _
def Xm{cs ds:List Int}{n j:Nat}:j∈ik cs ds n↔j<n/\cs.getD j 0≠ds.getD j 0:=by unfold ik;rw[xg,GK,bne_iff_ne]
def IN{nm:List UInt8}{us:List Pr}(N0:aR nm us=0){n m:Int}(C5:1<=n)(hm1:1<=m)(hm2:m<=1099511627776):
  gI (dI us (aC us n) (dG nm us) n) m=fX (aC us n) (aC us m) (ik (aC us n) (aC us m) us.length):=by
 obtain⟨hL,hyl,hf⟩:=jg N0;have J7:∀x∈us,1<=x.2:=λx hx=>(hf x hx).1;obtain⟨x0,l0,hxl,Y0⟩:=gj N0;have I1:us≠[]:=by rw[hxl];simp
 have hdn:=nz us n aa J7;have hdm:=nz us m aa J7;have hen:=qf us n I1;have hem:=qf us m I1;have huq:∀ds,tk us ds->evH us ds=m->aC us m=ds:=λds h1 h2=>by rw[<-h2];exact By us ds h1
 have hv:∀i,i<us.length->(dG nm us).getD i 0=vW us i:=λi hi=>(vT N0 hi).1;clear hyl hf hxl Y0;generalize dG nm us=vs at hv |-;generalize aC us m=ds at hdm hem huq |-;generalize aC us n=cs at hdn hen |-;have hl:=hdn.1;have hlm:=hdm.1;have e1:∀i d,i<us.length->evH us (cs.set i d)=n+(d-cs.getD i 0)*vW us i:=λi d hi=>by rw[As us cs i d hl hi,hen]
 have e2:∀i d e,i+1<us.length->evH us ((cs.set i d).set (i+1) e)=n+(d-cs.getD i 0)*vW us i+(e-cs.getD (i+1) 0)*vW us (i+1):=λi d e hi=>by rw[As us (cs.set i d) (i+1) e (by rw[fq];exact hl) hi,e1 i d aa,dS _ _ _ _ aa,ab aa]
 have g1:∀i d,i<us.length->(cs.set i d).getD i 0=d:=λi d hi=>by rw[dS _ _ _ _ aa,ad rfl]
 have g2:∀i d e,i+1<us.length->((cs.set i d).set (i+1) e).getD i 0=d/\((cs.set i d).set (i+1) e).getD (i+1) 0=e:=λi d e hi=>by exact⟨by rw[dS _ _ _ _ (by rw[fq];omega),ab aa,g1 i d aa],by rw[dS _ _ _ _ (by rw[fq];omega),ad rfl]⟩
 have okm:okN m=true:=by unfold okN;rw[aL hm1,aL hm2];rfl
 refine IL (λx hx hxm=>?_) ?_
 ·unfold dI at hx;obtain⟨i,hi,hx⟩:=List.mem_flatMap.1 hx;rw[GK]at hi;obtain⟨c0,c1⟩:=hdn.2 i hi;unfold eM at hx;rw[js,js,ia,ia]at hx;rcases hx with(⟨h1,_,rfl⟩|⟨h1,_,rfl⟩)|hx
  ·replace hxm:n-vs.getD i 0=m:=hxm;rw[hv i hi]at hxm;have hc:=rS h1;have:=huq (cs.set i (cs.getD i 0-1)) (hdn.set hi aa λh=>by have:=c1 h;omega) (by rw[e1 i _ hi,<-hxm,show cs.getD i 0-1-cs.getD i 0=-1 by omega,mU,po];omega);subst this;rw[PL hl hi aa];show 1=(if _ then(1:Int)else _);rw[g1 i _ hi,ad aa]
  ·replace hxm:n+vs.getD i 0=m:=hxm;rw[hv i hi]at hxm;have hc:=(gE hi).1 h1;have:=huq (cs.set i (cs.getD i 0+1)) (hdn.set hi aa hc) (by rw[e1 i _ hi,<-hxm,show cs.getD i 0+1-cs.getD i 0=1 by omega,po]);subst this;rw[PL hl hi aa];show 2=(if _ then(1:Int)else _);rw[g1 i _ hi,ab aa,ad rfl]
  by_cases O2:i+1=us.length
  ·rw[ad O2]at hx;cases hx
  have I2:i+1<us.length:=aa;obtain⟨d0,d1⟩:=hdn.2 (i+1) I2;rw[ab O2,js,ia,ia]at hx;rcases hx with⟨h1,_,rfl⟩|⟨h1,_,rfl⟩
  ·rw[aT,aT,gP,bB]at h1;obtain⟨⟨h1,h2⟩,h3⟩:=h1;replace hxm:n-cs.getD (i+1) 0*vs.getD (i+1) 0+cs.getD (i+1) 0*vs.getD i 0=m:=hxm;rw[hv i hi,hv (i+1) I2]at hxm;have:=huq ((cs.set i (cs.getD (i+1) 0)).set (i+1) 0) ((hdn.set hi d0 ((gE hi).1 h3)).set I2 aa λh=>by have:=d1 h;omega) (by rw[e2 i _ _ I2,<-hxm,h1,Int.sub_zero,Int.zero_sub,mU];omega);subst this;rw[PM hl I2 aa aa];show 3=(if _ then(if _ then(3:Int)else _)else _);rw[ad rfl,(g2 i _ _ I2).1,(g2 i _ _ I2).2,ad ⟨rfl,aa,h1,rfl⟩]
  rw[aT,aT,gP,bB]at h1;obtain⟨⟨h1,h2⟩,h3⟩:=h1;replace hxm:n-cs.getD i 0*vs.getD i 0+cs.getD i 0*vs.getD (i+1) 0=m:=hxm;rw[hv i hi,hv (i+1) I2]at hxm;have:=huq ((cs.set i 0).set (i+1) (cs.getD i 0)) ((hdn.set hi (mT 0) λh=>by have:=c1 h;omega).set I2 c0 ((gE I2).1 h3)) (by rw[e2 i _ _ I2,<-hxm,h1,Int.sub_zero,Int.zero_sub,mU];omega);subst this;rw[PM hl I2 aa aa];show 4=(if _ then(if _ then(3:Int)else if _ then 4 else _)else _);rw[ad rfl,(g2 i _ _ I2).1,(g2 i _ _ I2).2,ab (λh=>aa),ad ⟨rfl,aa,h1,rfl⟩]
 have md:=@Xm cs ds us.length;have found:∀(i:Nat)(x:Sp),i<us.length->x∈eM us cs vs n i->x.2.2=m->∃x∈dI us cs vs n,x.2.2=m:=λi x hi hx he=>⟨x,List.mem_flatMap.2 ⟨i,List.mem_range.2 hi,hx⟩,he⟩;generalize ik cs ds us.length=D at md |-;rcases D with _|⟨a,_|⟨b,_|⟨c,D⟩⟩⟩
 ·exact .inl rfl
 ·have ha:=(md.1 (bh ..)).1;have hds:ds=cs.set a (ds.getD a 0):=ZA (by rw[fq];omega) λj hj=>by
   rw[dS _ _ _ _ aa];by_cases e:j=a
   ·subst e;rw[ad rfl]
   rw[ab e];exact gh λh=>e (List.mem_singleton.1 (md.2 ⟨aa,λh'=>h h'.symm⟩))
  have hev:m=n+(ds.getD a 0-cs.getD a 0)*vW us a:=by rw[<-e1 a _ ha,<-hds,hem]
  have hda:=hdm.2 a ha;show(if _ then(1:Int)else if _ then 2 else 0)=0\/_;by_cases k1:cs.getD a 0=ds.getD a 0+1
  ·refine .inr (found a _ ha (ef _ (ef _ (ia.2 ⟨aL aa,?_,rfl⟩))) ?_)
   ·show okN (n-vs.getD a 0)=true;rw[hv a ha,show n-vW us a=m by rw[hev,k1,show ds.getD a 0-(ds.getD a 0+1)=-1 by omega,mU,po];omega];exact okm
   show n-vs.getD a 0=m;rw[hv a ha,hev,k1,show ds.getD a 0-(ds.getD a 0+1)=-1 by omega,mU,po];omega
  rw[ab k1];by_cases k2:cs.getD a 0+1=ds.getD a 0
  ·have hm:n+vs.getD a 0=m:=by rw[hv a ha,hev,<-k2,show cs.getD a 0+1-cs.getD a 0=1 by omega,po]
   exact .inr (found a (2,(us.getD a ([],0)).1,n+vs.getD a 0) ha (ef _ (dM _ (ia.2 ⟨(gE ha).2 λh=>by rw[k2];exact hda.2 h,by show okN (n+vs.getD a 0)=true;rw[hm];exact okm,rfl⟩))) hm)
  rw[ab k2];exact .inl rfl
 ·have ha:=(md.1 (bh ..)).1;have hb:=(md.1 (aU _ (bh ..))).1;show(if _ then(if _ then(3:Int)else if _ then 4 else 0)else 0)=0\/_;by_cases hba:b=a+1
  case neg=>rw[ab hba];exact .inl rfl
  subst hba;rw[ad rfl];have hds:ds=(cs.set a (ds.getD a 0)).set (a+1) (ds.getD (a+1) 0):=ZA (by rw[fq,fq];omega) λj hj=>by
   rw[dS _ _ _ _ (by rw[fq];omega),dS _ _ _ _ aa];by_cases e:j=a+1
   ·subst e;rw[ad rfl]
   rw[ab e];by_cases e':j=a
   ·subst e';rw[ad rfl]
   rw[ab e'];refine gh λh=>?_;have:=md.2 ⟨show j<us.length by omega,λh'=>h h'.symm⟩;rcases List.mem_cons.1 this with h|h
   ·exact e' h
   exact e (List.mem_singleton.1 h)
  have hev:m=n+(ds.getD a 0-cs.getD a 0)*vW us a+(ds.getD (a+1) 0-cs.getD (a+1) 0)*vW us (a+1):=by rw[<-e2 a _ _ hb,<-hds,hem]
  have hda:=hdm.2 a ha;have hdb:=hdm.2 (a+1) hb;have O2:¬a+1=us.length:=aa;by_cases k1:ds.getD (a+1) 0=0/\1<=ds.getD a 0/\cs.getD a 0=0/\cs.getD (a+1) 0=ds.getD a 0
  ·obtain⟨p1,p2,p3,p4⟩:=k1;have hm:n-cs.getD (a+1) 0*vs.getD (a+1) 0+cs.getD (a+1) 0*vs.getD a 0=m:=by rw[hv a ha,hv (a+1) hb,hev,p1,p3,p4,Int.sub_zero,Int.zero_sub,mU];omega
   refine .inr (found a (3,(us.getD a ([],0)).1,n-cs.getD (a+1) 0*vs.getD (a+1) 0+cs.getD (a+1) 0*vs.getD a 0) ha (dM _ ?_) hm);rw[ab O2];exact ef _ (ia.2 ⟨by rw[beq_iff_eq.2 p3,aL (show 0<cs.getD (a+1) 0 by omega),(gE ha).2 λh=>by rw[p4];exact hda.2 h];rfl,by show okN (n-cs.getD (a+1) 0*vs.getD (a+1) 0+cs.getD (a+1) 0*vs.getD a 0)=true;rw[hm];exact okm,rfl⟩)
  rw[ab k1];by_cases k2:ds.getD a 0=0/\1<=ds.getD (a+1) 0/\cs.getD (a+1) 0=0/\cs.getD a 0=ds.getD (a+1) 0
  ·obtain⟨p1,p2,p3,p4⟩:=k2;have hm:n-cs.getD a 0*vs.getD a 0+cs.getD a 0*vs.getD (a+1) 0=m:=by rw[hv a ha,hv (a+1) hb,hev,p1,p3,p4,Int.sub_zero,Int.zero_sub,mU];omega
   refine .inr (found a (4,(us.getD (a+1) ([],0)).1,n-cs.getD a 0*vs.getD a 0+cs.getD a 0*vs.getD (a+1) 0) ha (dM _ ?_) hm);rw[ab O2];exact dM _ (ia.2 ⟨by rw[beq_iff_eq.2 p3,aL (show 0<cs.getD a 0 by omega),(gE hb).2 λh=>by rw[p4];exact hdb.2 h];rfl,by show okN (n-cs.getD a 0*vs.getD a 0+cs.getD a 0*vs.getD (a+1) 0)=true;rw[hm];exact okm,rfl⟩)
  rw[ab k2];exact .inl rfl
 exact .inl rfl
def mz(nm:List UInt8)(us:List Pr)(m n:Int):Int:=
 if(1<=m/\1<=n)/\(m<=1099511627776/\n<=1099511627776)then fX (jr nm us n).1 (jr nm us m).1 (ik (jr nm us n).1 (jr nm us m).1 (jr nm us n).1.length)else 0
def Vp(us:List Pr)(cs ds:List Int):List Nat->List UInt8
 |[a]=>(us.getD a ([],0)).1
 |[a,b]=>if fX cs ds [a,b]=3 then(us.getD a ([],0)).1 else(us.getD b ([],0)).1
 |_=>[]
def Ej(us:List Pr)(n m:Int):Sp:=(fX (aC us n) (aC us m) (ik (aC us n) (aC us m) us.length),Vp us (aC us n) (aC us m) (ik (aC us n) (aC us m) us.length),m)
def OQ{nm:List UInt8}{us:List Pr}(N0:aR nm us=0){n:Int}(C5:1<=n){i:Nat}(hi:i<us.length){x:Sp}(hx:x∈eM us (aC us n) (dG nm us) n i):
  okN x.2.2=true/\x=Ej us n x.2.2/\x.1≠0/\(ik (aC us n) (aC us x.2.2) us.length=[i]\/i+1<us.length/\ik (aC us n) (aC us x.2.2) us.length=[i,i+1]):=by
 obtain⟨hL,hyl,hf⟩:=jg N0;have J7:∀x∈us,1<=x.2:=λx hx=>(hf x hx).1;obtain⟨x0,l0,hxl,Y0⟩:=gj N0;have I1:us≠[]:=by rw[hxl];simp
 have hdn:=nz us n aa J7;have hen:=qf us n I1;have huq:∀ds m,tk us ds->evH us ds=m->aC us m=ds:=λds m h1 h2=>by rw[<-h2];exact By us ds h1
 have hv:∀i,i<us.length->(dG nm us).getD i 0=vW us i:=λi hi=>(vT N0 hi).1;clear hyl hf hxl Y0;unfold Ej;generalize dG nm us=vs at hv hx;generalize aC us n=cs at hdn hen hx |-;have hl:=hdn.1;have e1:∀i d,i<us.length->evH us (cs.set i d)=n+(d-cs.getD i 0)*vW us i:=λi d hi=>by rw[As us cs i d hl hi,hen]
 have e2:∀i d e,i+1<us.length->evH us ((cs.set i d).set (i+1) e)=n+(d-cs.getD i 0)*vW us i+(e-cs.getD (i+1) 0)*vW us (i+1):=λi d e hi=>by rw[As us (cs.set i d) (i+1) e (by rw[fq];exact hl) hi,e1 i d aa,dS _ _ _ _ aa,ab aa]
 have g1:∀i d,i<us.length->(cs.set i d).getD i 0=d:=λi d hi=>by rw[dS _ _ _ _ aa,ad rfl]
 have g2:∀i d e,i+1<us.length->((cs.set i d).set (i+1) e).getD i 0=d/\((cs.set i d).set (i+1) e).getD (i+1) 0=e:=λi d e hi=>by exact⟨by rw[dS _ _ _ _ (by rw[fq];omega),ab aa,g1 i d aa],by rw[dS _ _ _ _ (by rw[fq];omega),ad rfl]⟩
 obtain⟨c0,c1⟩:=hdn.2 i hi;unfold eM at hx;rw[js,js,ia,ia]at hx;rcases hx with(⟨h1,hk,rfl⟩|⟨h1,hk,rfl⟩)|hx
 ·have hc:=rS h1;have:=huq (cs.set i (cs.getD i 0-1)) (n-vs.getD i 0) (hdn.set hi aa λh=>by have:=c1 h;omega) (by rw[e1 i _ hi,hv i hi,show cs.getD i 0-1-cs.getD i 0=-1 by omega,mU,po];omega);refine⟨hk,?_,(show(1:Int)≠0 by decide),.inl ?_⟩
  ·show((1:Int),_,_)=_;rw[this,PL hl hi aa];have ek:fX cs (cs.set i (cs.getD i 0-1)) [i]=1:=by show(if _ then(1:Int)else _)=1;rw[g1 i _ hi,ad aa]
   rw[ek];rfl
  show ik cs (aC us (n-vs.getD i 0)) us.length=_;rw[this,PL hl hi aa]
 ·have hc:=(gE hi).1 h1;have:=huq (cs.set i (cs.getD i 0+1)) (n+vs.getD i 0) (hdn.set hi aa hc) (by rw[e1 i _ hi,hv i hi,show cs.getD i 0+1-cs.getD i 0=1 by omega,po]);refine⟨hk,?_,(show(2:Int)≠0 by decide),.inl ?_⟩
  ·show((2:Int),_,_)=_;rw[this,PL hl hi aa];have ek:fX cs (cs.set i (cs.getD i 0+1)) [i]=2:=by show(if _ then(1:Int)else _)=2;rw[g1 i _ hi,ab aa,ad rfl]
   rw[ek];rfl
  show ik cs (aC us (n+vs.getD i 0)) us.length=_;rw[this,PL hl hi aa]
 by_cases O2:i+1=us.length
 ·rw[ad O2]at hx;cases hx
 have I2:i+1<us.length:=aa;obtain⟨d0,d1⟩:=hdn.2 (i+1) I2;rw[ab O2,js,ia,ia]at hx;rcases hx with⟨h1,hk,rfl⟩|⟨h1,hk,rfl⟩
 ·rw[aT,aT,gP,bB]at h1;obtain⟨⟨h1,h2⟩,h3⟩:=h1;have:=huq ((cs.set i (cs.getD (i+1) 0)).set (i+1) 0) (n-cs.getD (i+1) 0*vs.getD (i+1) 0+cs.getD (i+1) 0*vs.getD i 0) ((hdn.set hi d0 ((gE hi).1 h3)).set I2 aa λh=>by have:=d1 h;omega) (by rw[e2 i _ _ I2,hv i hi,hv (i+1) I2,h1,Int.sub_zero,Int.zero_sub,mU];omega);have ek:fX cs ((cs.set i (cs.getD (i+1) 0)).set (i+1) 0) [i,i+1]=3:=by show(if _ then(if _ then(3:Int)else _)else _)=3;rw[ad rfl,(g2 i _ _ I2).1,(g2 i _ _ I2).2,ad ⟨rfl,aa,h1,rfl⟩]
  refine⟨hk,?_,(show(3:Int)≠0 by decide),.inr ⟨I2,?_⟩⟩
  ·show((3:Int),_,_)=_;rw[this,PM hl I2 aa aa,ek];show _=((3:Int),(if _ then _ else _),_);rw[ek,ad rfl]
  show ik cs (aC us (n-cs.getD (i+1) 0*vs.getD (i+1) 0+cs.getD (i+1) 0*vs.getD i 0)) us.length=_;rw[this,PM hl I2 aa aa]
 rw[aT,aT,gP,bB]at h1;obtain⟨⟨h1,h2⟩,h3⟩:=h1;have:=huq ((cs.set i 0).set (i+1) (cs.getD i 0)) (n-cs.getD i 0*vs.getD i 0+cs.getD i 0*vs.getD (i+1) 0) ((hdn.set hi (mT 0) λh=>by have:=c1 h;omega).set I2 c0 ((gE I2).1 h3)) (by rw[e2 i _ _ I2,hv i hi,hv (i+1) I2,h1,Int.sub_zero,Int.zero_sub,mU];omega);have ek:fX cs ((cs.set i 0).set (i+1) (cs.getD i 0)) [i,i+1]=4:=by show(if _ then(if _ then(3:Int)else if _ then 4 else _)else _)=4;rw[ad rfl,(g2 i _ _ I2).1,(g2 i _ _ I2).2,ab (λh=>aa),ad ⟨rfl,aa,h1,rfl⟩]
 refine⟨hk,?_,(show(4:Int)≠0 by decide),.inr ⟨I2,?_⟩⟩
 ·show((4:Int),_,_)=_;rw[this,PM hl I2 aa aa,ek];show _=((4:Int),(if _ then _ else _),_);rw[ek,ab aE]
 show ik cs (aC us (n-cs.getD i 0*vs.getD i 0+cs.getD i 0*vs.getD (i+1) 0)) us.length=_;rw[this,PM hl I2 aa aa]
def Dq{m:Int}:∀{S:List Sp},gI S m≠0->∃x∈S,x.2.2=m
 |[],h=>absurd rfl h
 |x::S,h=>by
  rw[gI]at h;by_cases he:x.2.2=m
  ·exact⟨x,bh ..,he⟩
  rw[ab he]at h;obtain⟨y,hy,e⟩:=Dq h;exact⟨y,aU _ hy,e⟩
def vM{nm:List UInt8}{us:List Pr}(N0:aR nm us=0){n:Int}(C5:1<=n)(x:Sp):
  x∈dI us (aC us n) (dG nm us) n↔okN x.2.2=true/\x=Ej us n x.2.2/\x.1≠0:=by
 constructor
 ·intro hx;obtain⟨i,hi,hx⟩:=List.mem_flatMap.1 hx;obtain⟨h1,h2,h3,_⟩:=OQ N0 C5 (List.mem_range.1 hi) hx;exact⟨h1,h2,h3⟩
 rintro⟨h1,h2,h3⟩;have W5:=h1;unfold okN at W5;rw[aT,bB,bB]at W5;have hk:=IN N0 C5 W5.1 W5.2;have h4:gI (dI us (aC us n) (dG nm us) n) x.2.2≠0:=by rw[hk];have:x.1=(Ej us n x.2.2).1:=congrArg Prod.fst h2;rw[this]at h3;exact h3
 obtain⟨y,hy,e⟩:=Dq h4;obtain⟨i,hi,hy'⟩:=List.mem_flatMap.1 hy;obtain⟨_,h5,_,_⟩:=OQ N0 C5 (List.mem_range.1 hi) hy';rw[e]at h5;rw[h2,<-h5];exact hy
def Cq(k:Int):Int:=if k=1 then 2 else if k=2 then 1 else if k=3 then 4 else if k=4 then 3 else 0
def Mg(cs ds:List Int)(a:Nat):fX cs ds [a]=if cs.getD a 0=ds.getD a 0+1 then 1 else if cs.getD a 0+1=ds.getD a 0 then 2 else 0:=rfl
def Mh(cs ds:List Int)(a b:Nat):fX cs ds [a,b]=if b=a+1 then(if ds.getD b 0=0/\1<=ds.getD a 0/\cs.getD a 0=0/\cs.getD b 0=ds.getD a 0 then 3 else if ds.getD a 0=0/\1<=ds.getD b 0/\cs.getD b 0=0/\cs.getD a 0=ds.getD b 0 then 4 else 0)else 0:=rfl
def Mi(cs ds:List Int)(n:Nat):∀D,ik cs ds n=D->fX ds cs D=Cq (fX cs ds D)
 |[],_=>rfl
 |[a],hD=>by
  have h:=(Xm (cs:=cs) (ds:=ds) (n:=n) (j:=a)).1 (by rw[hD];exact bh ..);rw[Mg,Mg];by_cases h1:cs.getD a 0=ds.getD a 0+1
  ·rw[ad h1,ab aa,ad aa];rfl
  by_cases h2:cs.getD a 0+1=ds.getD a 0
  ·rw[ab h1,ad h2,ad aa];rfl
  rw[ab h1,ab h2,ab aa,ab aa];rfl
 |[a,b],hD=>by
  rw[Mh,Mh];by_cases hb:b=a+1
  ·rw[ad hb,ad hb];by_cases h1:ds.getD b 0=0/\1<=ds.getD a 0/\cs.getD a 0=0/\cs.getD b 0=ds.getD a 0
   ·rw[ad h1,ab aa,ad aa];rfl
   by_cases h2:ds.getD a 0=0/\1<=ds.getD b 0/\cs.getD b 0=0/\cs.getD a 0=ds.getD b 0
   ·rw[ab h1,ad h2,ad aa];rfl
   rw[ab h1,ab h2,ab aa,ab aa];rfl
  rw[ab hb,ab hb];rfl
 |_::_::_::_,_=>rfl
def CD(cs ds:List Int)(n:Nat):ik cs ds n=ik ds cs n:=by
 unfold ik;refine congrArg (λp=>List.filter p _) (funext λi=>?_);by_cases h:cs.getD i 0=ds.getD i 0
 ·rw[h]
 rw[bne_iff_ne.2 h,bne_iff_ne.2 λe=>h e.symm]
def Pw:aq prog 105=true:=ae
def KY:aq prog 148=true:=ae
def KX:aq prog 104=true:=ae
def So:aq prog 53=true:=ae
def LA(H:Hp)(bn:Nat)(n x:Int)(u:AC)(hb:bn<H.nx)(hg:H.get bn=some (.arr [.i .i64 n] 3 0 0))(hu:ltV (.one u) H.nx):
  Con E2 105 [.agg [.i .i64 x,u],.one (.o (.ptr bn 0 0 1))] H (λ_=>False) λr _=>r=.one (.b (x==n)):=by
 refine Con.Fk (λH=>bn<H.nx) hb (λH=>H.get bn=some (.arr [.i .i64 n] 3 0 0)) hg (λH=>ltV (.one u) H.nx) hu λH hb hg hu=>?_;refine C1.fK 8 [.tmp 3] Tryz.func105 λtm h0 h1=>?_;have hb':bn<H.nx+1:=zd hb;have R2:∀o,(H.new o).get bn=some (.arr [.i .i64 n] 3 0 0):=λo=>(bu hb).trans hg;refine zW tyF ?_;exact⟨_,_,au (.b (x==n)) (.inr rfl) qe qp,(Fr.refl _).new _,λ_=>rfl⟩
def Iz(H:Hp)(v:AC)(lr:List Rl)(bn:Nat)(n:Int)(hv:fu H v lr)(hb:bn<H.nx)(hg:H.get bn=some (.arr [.i .i64 n] 3 0 0))(hL:lr.length<=1000000):
  Con E2 148 [.one v,.one (.o (.clo 105 [(bn,0,0,1)]))] H (λ_=>False) λr _=>r=.one (.i .i64 (jX 0 lr n)):=by
 refine Con.Fk (λH=>fu H v lr) hv (λH=>bn<H.nx) hb (λH=>H.get bn=some (.arr [.i .i64 n] 3 0 0)) hg λH hv hb hg=>?_;refine C1.fK 19 [.tmp 4] Tryz.func148 λtm h0 h1=>?_;have fin:=Ax E2 H 4 (jX 0 lr n);generalize E0:jX 0 lr n=r0 at fin;have l1:=hv.len;have l2:=hv.lt;replace E0:=ah E0;refine zW tyF ?_;refine R1.ed λK k1 k2 k3 k4=>?_;refine R1.loop (λk A H1=>∃i:Nat,k=lr.length-i/\i<=lr.length/\Gr H H1/\Hd (jX i (lr.drop i) n=r0)/\ko A.tm 0 1 (v) (.o (.clo 105 [(bn,0,0,1)])) (gT A lr.length (fI A i (A.nt=19/\A.dfr=[])))) ?_ lr.length
  ⟨0,rfl,Nat.zero_le _,Fr.refl _,E0,zL⟩
 clear h0 h1 tm l1 l2 E0 k3;rintro k A H1 ⟨i,rfl,hi,g1,hr,t0,t1,t7,t8,A0,B0⟩;have b8:=hv.gr g1;have hg1:H1.get bn=some (.arr [.i .i64 n] 3 0 0):=by rw[g1.get _ hb aF];exact hg
 have Y3:bn<H1.nx:=ay hb g1.nx;refine zW tyF ?_;refine zI tyF (λhc=>?_) (λhc=>?_)
 ·have D0:i<lr.length:=aa;have ex:=aO D0;have S0:=List.drop_eq_getElem_cons D0;have Y2:=dK D0;have I0:=cU D0;generalize lr[i]=x at ex S0 Y2 I0;have N2:=bw i;obtain⟨id,g,off,cells,rfl,hid,B2,Q0⟩:=b8.open aa;obtain⟨u,Y0⟩:=Q0 i x ex;obtain⟨V2,y1,y2,y3,y4,y5,y6⟩:=Y0;clear Q0;have hr:=hr.out;rw[S0,jX]at hr;replace hr:=ah hr;clear S0 Y2;refine zW tyF ?_;refine R1.ed λK2 q1 q2 q3 q4=>?_;refine zW tyF ?_;refine zG (zDd tyF (ixC D0) Pw) λK hK=>?_;refine WE.con (LA H1 bn n x.1 u Y3 hg1 V2.lt) λw H2 g2 hw=>?_;subst hw;have g2':=g1.gr g2;by_cases Y5:x.1=n
  ·have hr:=hr.out;rw[ad Y5]at hr;have ce:=beq_iff_eq.2 Y5;replace Y5:=ah Y5;replace hr:=ah hr;refine zK tyF ?_;exact q4.out _ _ (k4.out _ _ (fin (i) _ _ qp qe (g2') (hr.out)))
  have hr:=hr.out;rw[ab Y5]at hr;have ce:(x.1==n)=false:=aW Y5;replace Y5:=ah Y5;replace hr:=ah hr;refine zK tyF ?_;apply q1.out;refine zW tyF ?_;exact⟨lr.length-(i+1),aa,i+1,rfl,D0,g2',hr,zL⟩
 have U2:i=lr.length:=aa;have hr:=hr.out;rw[U2,dD,jX]at hr;replace hr:=ah hr;clear U2;refine zW tyF ?_;apply k2.out;refine zW tyF ?_;exact fin (-1) _ _ qp qe (g1) (hr.out)
def Iv(H:Hp)(v:AC)(lr:List Rl)(bn:Nat)(n:Int)(hv:fu H v lr)(hb:bn<H.nx)(hg:H.get bn=some (.arr [.i .i64 n] 3 0 0))(hL:lr.length<=1000000):
  Con E2 104 [.one v,.one (.o (.clo 105 [(bn,0,0,1)]))] H (λ_=>False) λr _=>r=.one (.b (decide (0<=jX 0 lr n))):=by
 refine Con.Fk (λH=>fu H v lr) hv (λH=>bn<H.nx) hb (λH=>H.get bn=some (.arr [.i .i64 n] 3 0 0)) hg λH hv hb hg=>?_;refine C1.fK 9 [.tmp 4] Tryz.func104 λtm h0 h1=>?_;refine zW tyF ?_;refine zG (qA tyF KY) λK hK=>?_;refine WE.con (Iz H v lr bn n hv hb hg hL) λw H2 g2 hw=>?_;subst hw;refine zK tyF ?_;exact⟨_,_,au (.b (decide (0<=jX 0 lr n))) (.inr rfl) qe qp,g2,λ_=>rfl⟩
def Ql(H:Hp)(a b:AC)(lr:List Rl)(n:Int)(hb:fu H b lr)(ha:ltV (.one a) H.nx)(hL:lr.length<=1000000):
  Con E2 53 [.agg [a,b],.one (.i .i64 n)] H (λ_=>False) λr _=>r=.one (.b (decide (0<=jX 0 lr n))):=by
 refine Con.iM (λH=>fu H b lr) hb (λH=>ltV (.one a) H.nx) ha λH hb ha=>?_;refine C1.fK 9 [.tmp 4] Tryz.func53 λtm h0 h1=>?_;have l2:=hb.lt;refine zG tyF λK hK=>?_;apply hK.out;refine R1.gen (λA1 H1=>Gr H H1/\H.nx+1<H1.nx/\H1.get H.nx=some (.arr [a,b] 26 0 0)/\H1.get (H.nx+1)=some (.arr [.i .i64 n] 3 0 0)/\iB A1 H.nx (eK A1 3 (.o (.ptr (H.nx+1) 0 0 1)) 9 []))
  ⟨((Fr.refl _).new _).new _,by show H.nx+1<H.nx+1+1;omega,by rw[bu (by show H.nx<H.nx+1;omega)];exact aJ rfl,aJ rfl,zL⟩ ?_
 clear h0 h1 tm hK K l2;rintro A1 H1 ⟨g1,n1,r1,r2,t2,t3,A0,B0⟩;have n0:H.nx<H1.nx:=aa;have hb:=hb.gr g1;refine zG (qA tyF KX) λK hK=>?_;refine WE.con (Iv H1 b lr _ n hb n1 r2 hL) λw H2 g2 hw=>?_;subst hw;refine zK tyF ?_;exact⟨_,_,au (.b (decide (0<=jX 0 lr n))) (.inr rfl) qe qp,g1.gr g2,λ_=>rfl⟩
def rk(k:Int):Int:=if k=5 then 2 else 1
def AN(L:Lad)(lr:List Rl)(x n m:Int):Int:=
 if mz L.1 L.2 m n≠0 then mz L.1 L.2 m n else if 0<=jX 0 lr x/\n≠m/\1<=m/\m<=1099511627776 then 5 else 0
abbrev Fx:=Int×Int×Int×Int
def fxC(x:Fx):List AC:=[.i .i64 x.1,.i .i64 x.2.1,.i .i64 x.2.2.1,.i .i64 x.2.2.2]
def NR(x:Fx):(fxC x).length=4:=rfl
def SlF(H:Hp)(v:AC)(l:List Fx):Prop:=SlC H v 4 l.length (l.flatMap fxC)
def SlF.gr{H H':Hp}{v:AC}{l:List Fx}(h:SlF H v l)(hg:Gr H H'):SlF H' v l:=SlC.gr h hg
def SlF.len{H:Hp}{v:AC}{l:List Fx}(h:SlF H v l):eo H 1 (.one v)=.val (.one (.i .i64 (l.length:Int))) H:=SlC.len h
def SlF.lt{H:Hp}{v:AC}{l:List Fx}(h:SlF H v l):ltV (.one v) H.nx:=sj h
def SlF.nil{H:Hp}:SlF H (.o .nilS) []:=⟨by simp,.inl ⟨rfl,rfl⟩⟩
structure FxAt(cells:List AC)(o:Nat)(x:Fx):Prop where
 all:(cells.drop o).take 4=fxC x
 le:o+4<=cells.length
 le1:o+1<=cells.length
 le2:o+1+1<=cells.length
 le3:o+2+1<=cells.length
 le4:o+3+1<=cells.length
 f0:(cells.drop o).headD (.b false)=.i .i64 x.1
 f1:(cells.drop (o+1)).headD (.b false)=.i .i64 x.2.1
 f2:(cells.drop (o+2)).headD (.b false)=.i .i64 x.2.2.1
 f3:(cells.drop (o+3)).headD (.b false)=.i .i64 x.2.2.2
def aaG{cells:List AC}{o:Nat}{a b c d:AC}(h:(cells.drop o).take 4=[a,b,c,d]):(cells.drop o).headD (.b false)=a/\(cells.drop (o+1)).headD (.b false)=b/\(cells.drop (o+2)).headD (.b false)=c/\(cells.drop (o+3)).headD (.b false)=d:=by
 rw[<-iy,<-iy,<-iy];match hd:cells.drop o,h with
 |x0::x1::x2::x3::r,h=>simp only[List.take_succ_cons,List.take_zero,sH,and_true]at h;obtain⟨rfl,rfl,rfl,rfl⟩:=h;exact⟨rfl,rfl,rfl,rfl⟩
def SlF.open{H:Hp}{v:AC}{l:List Fx}(h:SlF H v l)(hn:0<l.length):∃id g off cells,v=.o (.sl id g off l.length 4)/\id<H.nx/\rowOf (H.get id) g=some cells/\∀(i:Nat)(x:Fx),l[i]?=some x->FxAt cells (off+i*4) x:=by
 obtain⟨id,g,off,h1,h2,hr⟩:=SlC.pos h hn;have T3:=hr;obtain⟨cells,h3,h6,h7⟩:=hr;refine⟨id,g,off,cells,h1,h2,h3,λi x hx=>?_⟩;obtain⟨cells',k3,k6,k7⟩:=Rd.at (c:=fxC) NR T3 hx;rw[h3]at k3;cases k3
 rw[fxC]at k7;obtain⟨d0,d1,d2,d3⟩:=aaG k7;exact⟨k7,k6,aa,aa,aa,aa,d0,d1,d2,d3⟩
def gW(v:List Int)(prev:Option Int)(f:Fx):Bool:=decide (f.1<0)||(decide ((v.length:Int)<=f.1)||((prev.any λp=>decide (f.1<=p))||!(f.2.1==v.getD f.1.toNat 0)))
def AP(ls:List Lad)(lc:List Cl)(lr:List Rl)(f:Fx):Int:=AN (ca (some ls) (sS lc f.1)) lr f.1 f.2.1 f.2.2.1
def nu(ls:List Lad)(lc:List Cl)(lr:List Rl)(v:List Int):Option Int->Int->List Fx->Int×Int
 |_,t,[]=>(t,0)
 |prev,t,f::l=>if gW v prev f=true then(0,55)else if f.2.2.2=0\/f.2.2.2≠AP ls lc lr f then(0,55)else nu ls lc lr v (some f.1) (t+rk f.2.2.2) l
def ns(o:Option (List Lad))(p:Pz)(v:List Int)(l:List Fx):Int×Int:=if fO o p v≠0 then(0,fO o p v)else nu (o.getD []) p.1 p.2 v none 0 l
def rj(l:List Fx):Nat->Option Int
 |0=>none
 |j+1=>(l[j]?).map (·.1)
def Ei{nm:List UInt8}{us:List Pr}(N0:aR nm us=0){n m:Int}(C5:1<=n)(E4:n<=1099511627776)(hm1:1<=m)(hm2:m<=1099511627776):gI (dI us (aC us n) (dG nm us) n) m=mz nm us m n:=by
 have e:∀k,1<=k->k<=1099511627776->jr nm us k=(aC us k,0):=λk h1 h2=>by unfold jr;rw[ab (λh=>h N0),ad ⟨aa,h2⟩]
 unfold mz;rw[ad ⟨⟨hm1,C5⟩,hm2,E4⟩,e n C5 E4,e m hm1 hm2,IN N0 C5 hm1 hm2];show _=fX _ _ (ik _ _ (aC us n).length);rw[lP]
def Ra{nm:List UInt8}{us:List Pr}{n m:Int}(h:m<1\/1099511627776<m):mz nm us m n=0:=by unfold mz;rw[ab (λh'=>aa)]
def Mf{nm:List UInt8}{us:List Pr}{n:Int}:mz nm us n n=0:=by
 unfold mz;split
 ·have:∀(cs:List Int)(k:Nat),ik cs cs k=[]:=λcs k=>WN _ k λj _=>zf _;rw[this];rfl
 rfl
def Vo(cs ds:List Int)(D:List Nat):fX cs ds D≠5:=by
 unfold fX;split
 ·split
  ·decide
  split<;>decide
 ·split
  ·split
   ·decide
   split<;>decide
  decide
 decide
def Yf{nm:List UInt8}{us:List Pr}{n m:Int}:mz nm us m n≠5:=by
 unfold mz;split
 ·exact Vo _ _ _
 decide
def Qp{L:Lad}{lr:List Rl}{x n m:Int}(h:n=m\/m<1\/1099511627776<m):AN L lr x n m=0:=by
 unfold AN;have e:mz L.1 L.2 m n=0:=by
  rcases h with rfl|h
  ·exact Mf
  exact Ra h
 rw[e,ab (λh=>h rfl),ab (λh'=>aa)]
def Sl:aq prog 25=true:=ae
def Qb(H:Hp)(k a b w fx:AC)(ls:List Lad)(lc:List Cl)(lr:List Rl)(v:List Int)(l:List Fx)(hk:cM H k (some ls))(hL:∀x∈ls,x.2.length<=1000000)(ha:fJ H a lc)(hb:fu H b lr)(hC:lc.length<=64)(hR:lr.length<=1000000)(U1:v.length=lc.length)(hvr:∀n∈v,1<=n/\n<=1099511627776)
  (N0:∀y∈lc,aR (ca (some ls) y.2.2.1).1 (ca (some ls) y.2.2.1).2=0) (hw:SlI H w v) (hf:SlF H fx l) (hF:l.length<=4398046511104):
  Con E2 25 [.one k,.agg [a,b],.one w,.one fx] H (λ_=>False) λr _=>r=.tup [(false,[.i .i64 (nu ls lc lr v none 0 l).1]),(false,[.i .i64 (nu ls lc lr v none 0 l).2])]:=by
 refine Con.of rfl λlg=>?_;have hk:cM ⟨H.t,H.nx,lg⟩ k (some ls):=cM.same (H:=H) rfl rfl hk;have ha:fJ ⟨H.t,H.nx,lg⟩ a lc:=ha;have hb:fu ⟨H.t,H.nx,lg⟩ b lr:=hb;have hw:SlI ⟨H.t,H.nx,lg⟩ w v:=hw;have hf:SlF ⟨H.t,H.nx,lg⟩ fx l:=hf;generalize(⟨H.t,H.nx,lg⟩:Hp)=H at hk ha hb hw hf |-
 refine C1.nk 115 [.tmp 8,.tmp 9] Tryz.func25 λtm h0 h1 h2 h3=>?_;generalize I7:nu ls lc lr v none 0 l=q0;have fin:=aaQ E2 H 8 9 (q0);generalize E0:q0=r0 at fin;rw[<-I7]at E0;clear I7;replace E0:=ah E0;replace U1:=ah U1;refine zG tyF λK hK=>?_;apply hK.out;refine R1.gen (λA1 H1=>Gr H H1/\H.nx<H1.nx/\H1.get H.nx=some (.arr [a,b] 26 0 0)/\yf A1 0 2 3 5 (k) (w) (fx) (.o (.ptr H.nx 0 0 2)) 115 []) ⟨(Fr.refl _).new _,aZ _,aJ rfl,zL⟩ ?_;rintro A1 H1 ⟨g1,m1,rx,t0,t2,t3,t5,A0,B0⟩;clear h0 h1 h2 h3 tm hK K;have hk:=hk.gr g1;have ha:=ha.gr g1;have hb:=hb.gr g1;have hw:=hw.gr g1;have hf:=hf.gr g1;obtain⟨N,hN⟩:=dZ H.nx;rw[<-hN]at m1 rx t5;clear hN;have l1:=hf.len;have l2:=hf.lt;refine zW tyF ?_;refine R1.ed λK k1 k2 k3 k4=>?_;refine R1.loop (λz A H3=>∃(i:Nat)(tot:Int),z=l.length-i/\i<=l.length/\0<=tot/\tot<=2*(i:Int)/\Gr H1 H3/\Hd (nu ls lc lr v (rj l i) tot (l.drop i)=r0)/\VT A.tm 0 2 3 5 10 17 (k) (w) (fx) (.o (.ptr N 0 0 2)) (.i .i64 (tot:Int)) (fx) (xo A l.length i)) ?_ l.length
  ⟨0,0,rfl,Nat.zero_le _,mT _,aa,Fr.refl _,E0,zL⟩
 clear t0 t2 t3 t5 A0 B0 A1 E0 k3 l1 l2;rintro z A H3 ⟨i,tot,rfl,hi,ht0,ht1,g3,hr,t0,t2,t3,t5,t10,t17,t18,t19,A0,B0⟩;have hf3:=hf.gr g3;refine zW tyF ?_;refine zI tyF (λhc=>?_) (λhc=>?_)
 ·have D0:i<l.length:=aa;have ex:=aO D0;have S0:=List.drop_eq_getElem_cons D0;have Y2:=dK D0;have I0:=cU D0;generalize l[i]=x at ex S0 Y2 I0;have N2:=bw i;obtain⟨id,g,off,cells,rfl,hid,B2,Q0⟩:=hf3.open aa;have Y0:=Q0 i x ex;have y1:=Y0.all;have y2:=Y0.le;rw[fxC]at y1;clear Y0 I0 Y2;have C0:=hr.out;rw[S0,nu]at C0;replace C0:=ah C0;clear S0 hr;refine zW tyF ?_;refine R1.ed λK2 q1 q2 q3 q4=>?_;obtain⟨rx,m1⟩:=bq g3 m1 rx;refine zG (qA tyF (ixC D0)) λK3 L7=>?_;apply L7.out;obtain⟨x1,x2,x3,x4⟩:=x;replace y1:(cells.drop (off+i*4)).take 4=[.i .i64 x1,.i .i64 x2,.i .i64 x3,.i .i64 x4]:=y1;refine R1.gen (λA4 H4=>Gr H3 H4/\H3.nx<H4.nx/\H4.get H3.nx=some (.arr [.i .i64 x1,.i .i64 x2,.i .i64 x3,.i .i64 x4] 80 0 0)/\wy A4.tm 0 2 3 5 (k) (w) (.o (.sl id g off l.length 4)) (.o (.ptr N 0 0 2)) (jc A4 tot i (ko A4.tm 12 17 (.o (.ptr H3.nx 0 0 4)) (.o (.sl id g off l.length 4)) (xo A4 l.length i))))
   ⟨((Fr.refl _).new _).mod _ (.inl (ai _)),aZ _,ao rfl,zL⟩ ?_
  clear t0 t2 t3 t5 t10 t17 t18 t19 A0 B0 A y1 y2 L7 K3;rintro A H4 ⟨g4,mM,rM,t0,t2,t3,t5,t10,t11,t12,t17,t18,t19,A0,B0⟩;obtain⟨M,hM⟩:=dZ H3.nx;rw[<-hM]at mM rM t12;clear hM;obtain⟨rx,m1⟩:=bq g4 m1 rx;have hgr4:rowOf (H4.get id) g=some cells:=by rw[g4.get _ hid aF];exact B2
  have P7:id<H4.nx:=ay hid g4.nx;have g14:=g3.gr g4;have hw4:=hw.gr g14;clear B2 hid hf3 g4 g3;replace ex:=ah ex;repeat refine R1.aM ?_
  refine R1.s_h ae λK4 hK4=>?_;have key:Hd (∀(bb:Bool)(A:ag),(gW v (rj l i) (x1,x2,x3,x4)||((x3==x2)||(decide (x3<1)||decide (1099511627776<x3))))=bb->MC A.tm 75 0 2 3 5 (.b bb) (k) (w) (.o (.sl id g off l.length 4)) (.o (.ptr N 0 0 2)) (jc A tot i (ko A.tm 12 17 (.o (.ptr M 0 0 4)) (.o (.sl id g off l.length 4)) (xo A l.length i)))->K4 A H4):=by
   clear t0 t2 t3 t5 t10 t11 t12 t17 t18 t19 A0 B0 A;rintro bb A u7 ⟨t75,t0,t2,t3,t5,t10,t11,t12,t17,t18,t19,A0,B0⟩;apply hK4.out;cases bb with
   |true=>
    have O0:(0,55)=r0:=by
     rw[<-C0.out];by_cases Y3:gW v (rj l i) (x1,x2,x3,x4)=true
     ·rw[ad Y3]
     rw[ab Y3];rw[zg]at Y3;rw[Y3,Bool.false_or,eW,eW,gP,bB,bB]at u7;have e:AP ls lc lr (x1,x2,x3,x4)=0:=Qp (u7.imp (λh=>h.symm) λh=>h);rw[e];exact(ad (Decidable.em (x4=0))).symm
    replace O0:=ah O0;clear u7;refine zW tyF ?_;exact q4.out _ _ (k4.out _ _ (fin (0) (55) _ _ qp qp qe (g1.gr g14) (O0.out)))
   |false=>
    have hb3:gW v (rj l i) (x1,x2,x3,x4)=false/\x3≠x2/\¬x3<1/\¬1099511627776<x3:=by rw[iz,iz,iz,BH,fm,fm]at u7;exact u7
    obtain⟨Y3,I1,hm1,hm2⟩:=hb3;clear u7;have O0:=C0.out;rw[ab (by rw[Y3];decide)]at O0;have hb1':=Y3;unfold gW at hb1';rw[iz,iz,iz,fm,fm,Bool.not_eq_false',gP]at hb1';have L4:0<=x1:=by have:=hb1'.1;omega
    have hxv:x1<v.length:=by have:=hb1'.2.1;omega
    have Y0:x1<lc.length:=by have:=U1.out;omega
    have hfr:1<=x2/\x2<=1099511627776:=by have h:=hb1'.2.2.2;rw[show(x1,x2,x3,x4).2.1=x2 from rfl,show(x1,x2,x3,x4).1=x1 from rfl,bt,aO (by omega:x1.toNat<v.length)]at h;rw[h];exact hvr _ (cU _)
    clear Y3 hb1' hxv;obtain⟨J7,hf2⟩:=hfr;have hlt1:x1.toNat<lc.length:=aa;have hy:=aO hlt1;have hc0:=N0 _ (cU hlt1);have hkf:AP ls lc lr (x1,x2,x3,x4)=AN (ca (some ls) lc[x1.toNat].2.2.1) lr x1 x2 x3:=by unfold AP sS;show AN (ca (some ls) ((lc[x1.toNat]?).elim [] λx=>x.2.2.1)) lr x1 x2 x3=_;rw[hy];rfl
    generalize lc[x1.toNat]=y at hy hc0 hkf;have hm3:1<=x3:=aa;have hm4:x3<=1099511627776:=aa;have hh:(0<=jX 0 lr x1/\x2≠x3/\1<=x3/\x3<=1099511627776)=(0<=jX 0 lr x1):=propext ⟨λh=>h.1,λh=>⟨h,λh'=>I1 h'.symm,hm3,hm4⟩⟩;unfold AN at hkf;simp only[hh]at hkf;rw[hkf]at O0;have he5:=@Yf (ca (some ls) y.2.2.1).1 (ca (some ls) y.2.2.1).2 x2 x3;have hlaw:=Ei hc0 J7 hf2 hm3 hm4;have hsb:=yM hc0 aa hf2;clear hh hkf hm1 hm2 I1 hlt1;replace O0:=ah O0;replace hc0:=ah hc0;replace hlaw:=ah hlaw;replace he5:=ah he5;replace hsb:=ah hsb;replace J7:=ah J7;replace hf2:=ah hf2;replace hm3:=ah hm3;replace hm4:=ah hm4;replace hy:=ah hy;have hla:=(ha.gr g14).lt;obtain⟨idc,gc,oc,cc,rfl,hidc,hgrc,hatc⟩:=(ha.gr g14).open aa;obtain⟨p,q,hx⟩:=hatc x1.toNat y hy.out;have y1:=hx.f3;have y2:=hx.le3;clear hatc hx;have hb4:=hb.gr g14;refine qX t75 ?_;refine R1.cq ?_;repeat refine R1.aM ?_
    refine zG (zDd tyF (ixI L4 Y0) nj) λK5 U0=>?_;refine WE.con (lC H4 k (some ls) y.2.2.1 (hk.gr g14) (λls' h=>by cases h;exact hL)) λw' H5 g5⟨c,Q2,hc,W0⟩=>?_;subst Q2;obtain⟨u,rfl,hu⟩:=hc.of;clear W0 hc;have lu:=hu.lt;obtain⟨rx,m1⟩:=bq g5 m1 rx;obtain⟨rM,mM⟩:=bq g5 mM rM;refine zS tyF ?_;apply U0.out;refine R1.gen (λA5 H6=>Gr H5 H6/\H5.nx<H6.nx/\H6.get H5.nx=some (.arr [.o (.str (ca (some ls) y.2.2.1).1),u] 51 0 0)/\wy A5.tm 0 2 3 5 (k) (w) (.o (.sl id g off l.length 4)) (.o (.ptr N 0 0 2)) (jc A5 tot i (gU A5.tm 12 13 17 (.o (.ptr M 0 0 4)) (.o (.ptr H5.nx 0 0 2)) (.o (.sl id g off l.length 4)) (xo A5 l.length i))))
     ⟨((Fr.refl _).new _).mod _ (.inl (ai _)),aZ _,ao rfl,zL⟩ ?_
    clear t0 t2 t3 t5 t10 t11 t12 t17 t18 t19 t75 A0 B0 A U0 K5 y1 y2 lu;rintro A H6 ⟨g6,n6,rl,t0,t2,t3,t5,t10,t11,t12,t13,t17,t18,t19,A0,B0⟩;obtain⟨L,hLn⟩:=dZ H5.nx;rw[<-hLn]at n6 rl t13;clear hLn;obtain⟨rx,m1⟩:=bq g6 m1 rx;obtain⟨rM,mM⟩:=bq g6 mM rM;have M7:=hu.gr g6;have lu:=M7.lt;have g46:=g5.gr g6;have hb6:=hb4.gr g46;clear hgr4 P7 hgrc hidc hu hw4;refine zG (qA tyF yj) λK6 hK6=>?_;refine WE.con (IM H6 (ca (some ls) y.2.2.1).1 u (ca (some ls) y.2.2.1).2 x3 x2 M7 hc0.out J7.out hf2.out hsb.out) λw' H7 g7 hq=>?_;rw[hlaw.out]at hq;subst hq;clear hlaw hc0 hsb M7;generalize mz (ca (some ls) y.2.2.1).1 (ca (some ls) y.2.2.1).2 x3 x2=e at O0 he5 |-;obtain⟨rx,m1⟩:=bq g7 m1 rx;obtain⟨rM,mM⟩:=bq g7 mM rM;have hb7:=hb6.gr g7;have g47:=g46.gr g7;have gg:=g1.gr (g14.gr g47);have hlt4:=D0;by_cases c0:e=0
    case neg=>
     have d0:(e==0)=false:=aW c0;have B5:=O0.out;rw[ad c0]at B5;clear O0;by_cases c6:e=x4
     case neg=>rw[ad (.inr (λh=>c6 h.symm))]at B5;have d6:(e==x4)=false:=aW c6;replace B5:=ah B5;replace c6:=ah c6;replace c0:=ah c0;refine zK tyF ?_;exact q4.out _ _ (k4.out _ _ (fin (0) (55) _ _ qp qp qe (gg) (B5.out)))
     rw[ab (λh=>h.elim (λh=>c0 (c6.trans h)) (λh=>h c6.symm))]at B5;have hpr:rk x4=1:=by unfold rk;rw[ab (λh=>he5.out (c6.trans h))]
     rw[hpr]at B5;have d6:=beq_iff_eq.2 c6;replace B5:=ah B5;replace hpr:=ah hpr;replace c6:=ah c6;replace c0:=ah c0;have hwt:=bZ (tot+1);refine zK tyF ?_;apply q1.out;refine zW tyF ?_;exact⟨l.length-(i+1),aa,i+1,tot+1,rfl,D0,aa,aa,g14.gr g47,by rw[rj,ex.out];exact B5,zL⟩
    subst c0;have B5:=O0.out;rw[ab (λh:(0:Int)≠0=>h rfl)]at B5;clear O0;replace B5:=ah B5;refine zK tyF ?_;refine zG (qA tyF So) λK7 hK7=>?_;refine WE.con (Ql H7 _ b lr x1 hb7 (λj hj=>ay (hla j hj) g47.nx) hR) λw' H8 g8 hq=>?_;obtain⟨rx,m1⟩:=bq g8 m1 rx;obtain⟨rM,mM⟩:=bq g8 mM rM;have gg:=gg.gr g8;have hr4:=B5.out;clear B5;by_cases cs:0<=jX 0 lr x1
    case neg=>rw[aV cs]at hq;subst hq;rw[ab cs,ad (Decidable.em (x4=0))]at hr4;replace hr4:=ah hr4;replace cs:=ah cs;refine zK tyF ?_;exact q4.out _ _ (k4.out _ _ (fin (0) (55) _ _ qp qp qe (gg) (hr4.out)))
    rw[aL cs]at hq;subst hq;rw[ad cs]at hr4;replace cs:=ah cs;by_cases c6:x4=5
    case neg=>rw[ad (.inr c6)]at hr4;have d6:((5:Int)==x4)=false:=aW (λh=>c6 h.symm);replace hr4:=ah hr4;replace c6:=ah c6;refine zK tyF ?_;exact q4.out _ _ (k4.out _ _ (fin (0) (55) _ _ qp qp qe (gg) (hr4.out)))
    rw[ab (λh=>h.elim (λh=>absurd (c6.symm.trans h) aE) (λh=>h c6))]at hr4;have hpr:rk x4=2:=by unfold rk;rw[ad c6]
    rw[hpr]at hr4;have d6:((5:Int)==x4)=true:=beq_iff_eq.2 c6.symm;replace hr4:=ah hr4;replace hpr:=ah hpr;replace c6:=ah c6;have hwt:=bZ (tot+2);refine zK tyF ?_;apply q1.out;refine zW tyF ?_;exact⟨l.length-(i+1),aa,i+1,tot+2,rfl,D0,aa,aa,g14.gr (g47.gr g8),by rw[rj,ex.out];exact hr4,zL⟩
  clear hK4;have lw:=hw4.len;have lw2:=hw4.lt;by_cases c0:x1<0
  ·refine zS tyF ?_;exact key.out true _ (by unfold gW;rw[aL c0,Bool.true_or,Bool.true_or]) zL
  by_cases c1:(v.length:Int)<=x1
  ·refine zS tyF ?_;exact key.out true _ (by unfold gW;rw[aL c1,Bool.true_or,Bool.or_true,Bool.true_or]) zL
  have L4:0<=x1:=aa;have hxv:x1<v.length:=aa;have s7:gW v (rj l i) (x1,x2,x3,x4)=(((rj l i).any λp=>decide (x1<=p))||!(x2==v.getD x1.toNat 0)):=by unfold gW;rw[aV c0,aV c1,Bool.false_or,Bool.false_or]
  replace s7:=ah s7;obtain⟨idw,gw,ow,cw,rfl,hidw,hgw,hatw⟩:=hw4.open aa;obtain⟨z1,z2⟩:=hatw x1.toNat (v.getD x1.toNat 0) (by rw[bt,aO aa];rfl);clear hatw lw lw2 hw4;generalize v.getD x1.toNat 0=vv at z1 s7;by_cases T5:i=0
  ·have hp:rj l i=none:=by rw[T5];rfl
   have hgt:¬0<(i:Int):=aa;replace hp:=ah hp;replace T5:=ah T5;by_cases c3:x2=vv
   case neg=>have d3:(x2==vv)=false:=aW c3;replace c3:=ah c3;refine zS (qA tyF (ixI L4 hxv)) ?_;exact key.out true _ (by rw[s7.out,hp.out,d3];simp) zL
   have d3:=beq_iff_eq.2 c3;replace c3:=ah c3;by_cases c4:x3=x2
   ·have d4:=beq_iff_eq.2 c4;replace c4:=ah c4;refine zS (qA tyF (ixI L4 hxv)) ?_;exact key.out true _ (by rw[d4];simp) zL
   have d4:(x3==x2)=false:=aW c4;replace c4:=ah c4;by_cases c5:x3<1
   ·refine zS (qA tyF (ixI L4 hxv)) ?_;exact key.out true _ (by rw[aL c5];simp) zL
   refine zS (qA tyF (ixI L4 hxv)) ?_;exact key.out (decide (1099511627776<x3)) _ (by rw[s7.out,hp.out,d3,d4,aV c5];simp) zL
  obtain⟨j,hj⟩:∃j,i=j+1:=⟨i-1,aa⟩;have hjl:j<l.length:=aa;have hgt:0<(i:Int):=aa;have J1:IntKind.i64.wrap ((i:Int)-1)=(j:Int):=by rw[aI aa aa];omega
  have hz:=Q0 j l[j] (aO hjl);have w1:=hz.f0;have w2:=hz.le1;have hp:rj l i=some l[j].1:=by rw[hj,rj,aO hjl];rfl
  generalize l[j].1=zz at w1 hp;clear hz Q0;replace hp:=ah hp;replace hj:=ah hj;by_cases c2:x1<=zz
  ·refine zS (zDd tyF (ixC hjl) (ixI L4 hxv)) ?_;exact key.out true _ (by rw[s7.out,hp.out];show((decide (x1<=zz)||_)||_)=true;rw[aL c2];rfl) zL
  by_cases c3:x2=vv
  case neg=>have d3:(x2==vv)=false:=aW c3;replace c3:=ah c3;refine zS (zDd tyF (ixC hjl) (ixI L4 hxv)) ?_;exact key.out true _ (by rw[s7.out,hp.out,d3];simp) zL
  have d3:=beq_iff_eq.2 c3;replace c3:=ah c3;by_cases c4:x3=x2
  ·have d4:=beq_iff_eq.2 c4;replace c4:=ah c4;refine zS (zDd tyF (ixC hjl) (ixI L4 hxv)) ?_;exact key.out true _ (by rw[d4];simp) zL
  have d4:(x3==x2)=false:=aW c4;replace c4:=ah c4;by_cases c5:x3<1
  ·refine zS (zDd tyF (ixC hjl) (ixI L4 hxv)) ?_;exact key.out true _ (by rw[aL c5];simp) zL
  refine zS (zDd tyF (ixC hjl) (ixI L4 hxv)) ?_;exact key.out (decide (1099511627776<x3)) _ (by rw[s7.out,hp.out,d3,d4,aV c5];simp;omega) zL
 have U2:i=l.length:=aa;have C0:=hr.out;rw[U2,dD,nu]at C0;replace C0:=ah C0;clear U2;refine zW tyF ?_;apply k2.out;refine zW tyF ?_;exact fin (tot) (0) _ _ qp qp qe (g1.gr g3) (C0.out)
def Pv:aq prog 26=true:=ae
def Wi:aq prog 8=true:=ae
def Ku:prog.underlying 27=some (.slice 3):=ae
def YP:∀z:List AC,mL z 0=[]:=λz=>rfl
def Hk:dp prog 27=1:=ae
def aa0:=Ot Hk Ku
def Ez(H:Hp)(v:AC)(l:List Int)(r:Option Nat):Prop:=dz H v 3 1 l.length (l.map (AC.i .i64)) r
def Ez.slI{H:Hp}{v:AC}{l:List Int}{r:Option Nat}(h:Ez H v l r):SlI H v l:=by have:=dz.slc h;unfold SlI;rw[NQ];exact this
def SlI.slc{H:Hp}{v:AC}{l:List Int}(h:SlI H v l):SlC H v 1 l.length (l.map (AC.i .i64)):=by rw[<-NQ];exact h
def PK(H:Hp)(v:AC)(l:List Int)(hv:SlI H v l)(hL:l.length*8<=140737488355328):
  Con E2 12 [.one v] H (λ_=>False) λr H'=>∃v' q,r=.one v'/\Ez H' v' l q/\∀i,q=some i->H.nx<=i:=by
 refine Con.Iw (λH=>SlI H v l) hv λH e hv=>?_;rw[<-e];clear e;refine C1.jf 7 [.tmp 2] Tryz.func12 λtm h0=>?_;obtain⟨z,hz,S2⟩:=BK;obtain⟨v',H',q,X2,hs,hg,hi⟩:=Na (P:=prog) (t:=27) fD tz hz S2 aE hv.slc aa;have D0:=hv.lt;clear hz S2 z;replace hv:=ah hv;refine zW tyF ?_;exact⟨_,_,au v' (.inr rfl) qe qp,hg,λ_=>⟨v',q,rfl,hs,hi⟩⟩
def Lh(H:Hp)(v:AC)(l:List Int)(hv:SlI H v l)(hL:l.length*8<=140737488355328):
  Con E2 26 [.one v] H (λ_=>False) λr H'=>∃v' q,r=.one v'/\Ez H' v' l q/\∀i,q=some i->H.nx<=i:=by
 refine Con.Iw (λH=>SlI H v l) hv λH e hv=>?_;rw[<-e];clear e;refine C1.jf 8 [.tmp 2] Tryz.func26 λtm h0=>?_;obtain⟨z,hz,S2⟩:=BK;have q5:=hv.slc;have D0:=hv.lt;rcases id q5 with⟨hc,⟨rfl,D3⟩|⟨id,g,off,rfl,hid,hr⟩⟩
 ·have hl:l=[]:=List.eq_nil_of_length_eq_zero D3;subst hl;clear hz S2 z q5 hc D3 hv;refine zW (qA tyF aa0) ?_;exact⟨_,_,au (.o .nilS) (.inr rfl) qe qp,Fr.refl _,λ_=>⟨_,none,rfl,.inl ⟨rfl,rfl,rfl,rfl⟩,λi h=>by cases h⟩⟩
 obtain⟨v',H',X2,ho,hf⟩:=Cm (P:=prog) (H:=H.new (.arr [] 3 0 0)) (t:=27) (id:=H.nx) fD tz hz S2 aE (aJ rfl) (aZ _) (q5.gr ((Fr.refl _).new _)) aa;have hg:Gr H H':=((Fr.refl _).new _).then hf λi h=>.inl aa;have I3:=ho.lt;clear hz S2 z hc;replace hv:=ah hv;replace q5:=ah q5;replace hr:=ah hr;replace hf:=ah hf;refine zW (zDd tyF aa0 YP) ?_;exact⟨_,_,au v' (.inr rfl) qe qp,hg,λ_=>⟨v',some H.nx,rfl,ho,λi h=>by cases h;exact ai _⟩⟩
def Wu{ls l:List Lad}(h:bkO ls=some l):∀x∈l,aR x.1 x.2=0:=by
 unfold bkO at h;by_cases hc:oP ls=0
 ·rw[ad hc]at h;cases h;unfold oP at hc;by_cases hn:(32:Int)<ls.length
  ·rw[ad hn]at hc;cases hc
  rw[ab hn]at hc;exact FM [] ls hc
 rw[ab hc]at h;cases h
def wS{ls:List Lad}{s:List UInt8}(h:sU (some ls) s=0):ca (some ls) s∈ls:=by
 rw[nR]at h;cases hi:jH 0 ls s with
 |none=>rw[hi]at h;cases h
 |some i=>
  obtain⟨x,hx,_⟩:=Lx hi;have e:ca (some ls) s=x:=by unfold ca;simp only[hi,Gz];rw[bt,hx];rfl
  rw[e];exact iY hx
def zF{o:Option (List Lad)}{p:Pz}{v:List Int}(h:fO o p v=0):∀n∈v,1<=n/\n<=1099511627776:=by
 unfold fO at h;by_cases c0:nq o p≠0
 ·rw[ad c0]at h;exact absurd h c0
 rw[ab c0]at h;cases hv:vS p.1 v with
 |false=>rw[ad hv]at h;cases h
 |true=>
  unfold vS at hv;rw[aT]at hv;intro n hn;have h2:v.any ma=false:=by
   cases hb:v.any ma with
   |false=>rfl
   |true=>rw[hb]at hv;exact absurd hv.2 aE
  have h3:ma n=false:=by
   cases hb:ma n with
   |false=>rfl
   |true=>rw[List.any_eq_true.2 ⟨n,hn,hb⟩]at h2;cases h2
  unfold ma at h3;rw[iz,fm,fm]at h3;omega
def SS(H:Hp)(k a b w fx:AC)(o:Option (List Lad))(p:Pz)(v:List Int)(l:List Fx)(hk:cM H k o)(hL:∀ls,o=some ls->∀x∈ls,x.2.length<=1000000)(N0:∀ls,o=some ls->∀x∈ls,aR x.1 x.2=0)(ha:fJ H a p.1)(hb:fu H b p.2)(hB:PzB p)(hw:SlI H w v)(hV:v.length<=4611686018427387904)(hf:SlF H fx l)(hF:l.length<=4398046511104):
  Con E2 8 [.one k,.agg [a,b],.one w,.one fx] H (λ_=>False) λr _=>r=.tup [(false,[.i .i64 (ns o p v l).1]),(false,[.i .i64 (ns o p v l).2])]:=by
 refine Con.of rfl λlg=>?_;have hk:cM ⟨H.t,H.nx,lg⟩ k o:=cM.same (H:=H) rfl rfl hk;have ha:fJ ⟨H.t,H.nx,lg⟩ a p.1:=ha;have hb:fu ⟨H.t,H.nx,lg⟩ b p.2:=hb;have hw:SlI ⟨H.t,H.nx,lg⟩ w v:=hw;have hf:SlF ⟨H.t,H.nx,lg⟩ fx l:=hf;generalize(⟨H.t,H.nx,lg⟩:Hp)=H at hk ha hb hw hf |-
 refine C1.nk 25 [.tmp 8,.tmp 9] Tryz.func8 λtm h0 h1 h2 h3=>?_;generalize I7:ns o p v l=q0;have fin:=aaQ E2 H 8 9 (q0);generalize E0:q0=r0 at fin;rw[<-I7]at E0;clear I7;unfold ns at E0;refine zG tyF λK hK=>?_;apply hK.out;refine R1.gen (λA1 H1=>Gr H H1/\H.nx<H1.nx/\H1.get H.nx=some (.arr [a,b] 26 0 0)/\yf A1 0 2 3 5 (k) (w) (fx) (.o (.ptr H.nx 0 0 2)) 25 []) ⟨(Fr.refl _).new _,aZ _,aJ rfl,zL⟩ ?_;rintro A1 H1 ⟨g1,m1,rx,t0,t2,t3,t5,A0,B0⟩;clear h0 h1 h2 h3 tm hK K;have hk:=hk.gr g1;have ha:=ha.gr g1;have hb:=hb.gr g1;have hw:=hw.gr g1;have hf:=hf.gr g1;refine zG (qA tyF kV) λK hK=>?_;refine WE.con (jR H1 k a b w o p v hk hL ha hb hB hw hV) λw' H2 g2 hq=>?_;subst hq;obtain⟨rx,m1⟩:=bq g2 m1 rx;have hk:=hk.gr g2;have ha:=ha.gr g2;have hb:=hb.gr g2;have hw:=hw.gr g2;have hf:=hf.gr g2;have g2:=g1.gr g2;clear g1;have G0:=@ou o p v;have hov:=@zF o p v;have hoc:=@pU o p;generalize fO o p v=e0 at E0 G0 hov;by_cases S1:e0=0
 case neg=>have ce:(e0==0)=false:=aW S1;rw[ad S1]at E0;replace E0:=ah E0;refine zK tyF ?_;exact fin (0) (e0) _ _ qp qp qe (g2) (E0.out)
 rw[ab (λh=>h S1)]at E0;have ce:(e0==0)=true:=by rw[S1];rfl
 obtain⟨hC,hR,U1,hcp,hrg⟩:=G0 S1;have hvr:=hov S1;obtain⟨ls,rfl,_,_,hgo,_⟩:=hoc hcp;have hL1:=hL ls rfl;have hc1:∀y∈p.1,aR (ca (some ls) y.2.2.1).1 (ca (some ls) y.2.2.1).2=0:=λy hy=>N0 ls rfl _ (wS (uW hgo y hy));obtain⟨lc,lr⟩:=p;replace E0:nu ls lc lr v none 0 l=r0:=E0;replace hR:lr.length<=1000000:=by have:lr.length<=64:=hR;omega
 have hcon:Hd (Con E2 25 [.one k,.agg [a,b],.one w,.one fx] H2 (λ_=>False) λr _=>r=.tup [(false,[.i .i64 r0.1]),(false,[.i .i64 r0.2])]):=by have h:=Qb H2 k a b w fx ls lc lr v l hk hL1 ha hb hC hR U1 hvr hc1 hw hf hF;rw[E0]at h;exact h
 clear G0 hoc hov hrg hcp hL N0 hB hgo hc1 hvr hL1 E0 ha hb hC hR;replace U1:=ah U1;replace S1:=ah S1;refine zK tyF ?_;refine zG (qA tyF Sl) λK hK=>?_;refine WE.con hcon.out λw' H3 g3 hq=>?_;subst hq;refine zK tyF ?_;exact fin (r0.1) (r0.2) _ _ qp qp qe (g2.gr g3) (rfl)
def bm(v:List Int)(l:List Fx):List Int:=l.foldl (λa x=>a.set x.1.toNat x.2.2.1) v
def dF(l:List Fx):∀(v:List Int),(bm v l).length=v.length:=by
 induction l with
 |nil=>intro v;rfl
 |cons x l ih=>intro v;show(bm (v.set x.1.toNat x.2.2.1) l).length=_;rw[ih,fq]
def JV(v:List Int)(l:List Fx)(x:Fx):bm v (l++[x])=(bm v l).set x.1.toNat x.2.2.1:=by unfold bm;rw[List.foldl_append];rfl
def KS(o:Option (List Lad))(p:Pz)(v:List Int)(l:List Fx):List Int×Int:=if(ns o p v l).2≠0 then([],(ns o p v l).2)else(bm v l,0)
def aa3{acc:List Int}{x:Int}{a:Int}(h0:0<=x)(h:x<acc.length):List.take x.toNat (acc.map (AC.i .i64))++AC.i .i64 a::List.drop (x.toNat+1) (acc.map (AC.i .i64))=(acc.set x.toNat a).map (AC.i .i64):=setRow (AC.i .i64) acc x.toNat a aa
def tyC:=zDi tyF Oa OY Pg MT CM CO CP
def cm{α:Type}(c:α->List AC)(d:Array α):List AC:=d.toList.flatMap c
section
variable{α:Type}[Inhabited α]{c:α->List AC}(hc:∀x,(c x).length=4)
include hc
omit [Inhabited α]in
theorem iU(d:Array α):(cm c d).length=d.size*4:=by unfold cm;rw[ql hc,ke]
omit [Inhabited α]in
theorem Bq(d:Array α)(i:Nat)(x:α):(cm c (d.setIfInBounds i x)).length=(cm c d).length:=by rw[iU hc,iU hc,rT]
theorem kK(d:Array α){i:Nat}(h:i<d.size):((cm c d).drop (i*4)).take 4=c d[i]!:=by
 have e:d.toList[i]?=some d[i]!:=by rw[lS,ub d i h,pq h]
 exact yr hc d.toList i _ e
omit [Inhabited α]in
theorem kL(d:Array α){i:Nat}(h:i<d.size):i*4+4<=(cm c d).length:=by rw[iU hc];omega
omit [Inhabited α]in
theorem qn:∀(l:List α)(i:Nat)(x:α),i<l.length->(l.flatMap c).take (i*4)++(c x++(l.flatMap c).drop (i*4+4))=(l.set i x).flatMap c
 |[],i,_,h=>absurd h (Nat.not_lt_zero i)
 |y::l,0,x,_=>by rw[Nat.zero_mul,List.take_zero,gQ,List.flatMap_cons,List.set_cons_zero,List.flatMap_cons,Nat.zero_add,sG,hc,mR (mS (hc y)),ga,List.drop_zero,gQ]
 |y::l,i+1,x,h=>by have ih:=qn l i x (Nat.lt_of_succ_lt_succ h);have e1:(i+1)*4=4+i*4:=aa;have e2:4+i*4+4=4+(i*4+4):=aa;rw[List.flatMap_cons,List.set_cons_succ,List.flatMap_cons,<-ih,e1,e2,List.take_append,sG,hc,iX (by rw[hc];omega),mR (by rw[hc];omega),gQ,bW,zh,zh]
omit [Inhabited α]in
theorem ru(d:Array α){i:Nat}(h:i<d.size)(x:α):(cm c d).take (i*4)++(c x++(cm c d).drop (i*4+4))=cm c (d.setIfInBounds i x):=by unfold cm;rw[qn hc d.toList i x (by rw[ke];exact h),zj]
theorem swQ{d:Array α}{i j:Nat}(hi:i<d.size)(hj:j<d.size):
  (((cm c d).drop (i*4)).take 4=c d[i]!)/\(((cm c d).drop (j*4)).take 4=c d[j]!)/\i*4+4<=(cm c d).length/\j*4+4<=(cm c d).length/\(∀(d:Array α)(i:Nat)(x:α),(cm c (d.setIfInBounds i x)).length=(cm c d).length) /\
  (∀x,(cm c d).take (i*4)++(c x++(cm c d).drop (i*4+4))=cm c (d.setIfInBounds i x)) /\
  (∀x y,(cm c (d.setIfInBounds i x)).take (j*4)++(c y++(cm c (d.setIfInBounds i x)).drop (j*4+4))=cm c ((d.setIfInBounds i x).setIfInBounds j y)):=
 ⟨kK hc d hi,kK hc d hj,kL hc d hi,kL hc d hj,Bq hc,λx=>ru hc d hi x,λx y=>ru hc _ (by rw[rT];exact hj) y⟩
theorem rdQ{d:Array α}{i j:Nat}(hi:i<d.size)(hj:j<d.size):
  (((cm c d).drop (i*4)).take 4=c d[i]!)/\(((cm c d).drop (j*4)).take 4=c d[j]!)/\i*4+4<=(cm c d).length/\j*4+4<=(cm c d).length:=
 ⟨kK hc d hi,kK hc d hj,kL hc d hi,kL hc d hj⟩
end
def swp_size{α:Type}[Inhabited α](d:Array α)(i j:Nat):(Go.Sort.swp d i j).size=d.size:=by unfold Go.Sort.swp;rw[rT,rT]
def Srt{α:Type}(c:α->List AC)(H:Hp)(id gen n:Nat)(d:Array α):Prop:=d.size=n/\(∃lo,lo<=gen/\H.get id=some (.arr (cm c d) 80 lo gen))/\id<H.nx
def Srt.sz{α:Type}{c:α->List AC}{H:Hp}{id gen n:Nat}{d:Array α}(h:Srt c H id gen n d):d.size=n:=h.1
def Srt.row{α:Type}{c:α->List AC}{H:Hp}{id gen n:Nat}{d:Array α}(h:Srt c H id gen n d):∃lo,lo<=gen/\H.get id=some (.arr (cm c d) 80 lo gen):=h.2.1
def Srt.lt{α:Type}{c:α->List AC}{H:Hp}{id gen n:Nat}{d:Array α}(h:Srt c H id gen n d):id<H.nx:=h.2.2
structure Cmp{α:Type}(c:α->List AC)(cf:α->α->Int)(cl:FuncId)(N:Nat):Prop where
 len:∀x,(c x).length=4
 lt:∀x,ltV (.agg (c x)) N
 bd:aq prog cl=true
 con:∀(H:Hp)(x y:α),N<=H.nx->Con E2 cl [.agg (c x),.agg (c y)] H (λ_=>False) λr _=>r=.one (.i .i64 (cf x y))
def ltF{α:Type}(cf:α->α->Int)(x y:α):Bool:=decide (cf x y<0)
def Cmp.ltH{α:Type}{c:α->List AC}{cf:α->α->Int}{cl:FuncId}{N:Nat}(h:Cmp c cf cl N){n:Nat}(hn:N<=n):∀x,ltV (.agg (c x)) n:=λx i hi=>ay (h.lt x i hi) hn
def Srt.fr{α:Type}{c:α->List AC}{H H':Hp}{id gen n:Nat}{d:Array α}{X:Nat->Prop}(h:Srt c H id gen n d)(hf:Fr X H H')(hx:¬X id):Srt c H' id gen n d:=by obtain⟨lo,h1,h2⟩:=h.row;exact⟨h.sz,⟨lo,h1,(hf.get _ h.lt hx).trans h2⟩,ay h.lt hf.nx⟩
def zN:aq prog 182=true:=ae
section
variable{α:Type}[Inhabited α]{c:α->List AC}{cf:α->α->Int}{cl N:Nat}
theorem Fs(hm:Cmp c cf cl N)(H:Hp)(id gen n:Nat)(d:Array α)(a b:Nat)(hs:Srt c H id gen n d)(hN:N<=H.nx)(A6:a<=b)(hb:b<=n)(hn:n<=1099511627776):
  Con E2 182 [.one (.o (.sl id gen 0 n 4)),.one (.i .i64 a),.one (.i .i64 b),.one (.o (.clo cl []))] H (λk=>k=id) λr H'=>r=.tup []/\Srt c H' id gen n (Go.Sort.insertionSort (ltF cf) d a b):=by
 have hbd:=hm.bd;refine Con.iM (λH=>Srt c H id gen n d) hs (λH=>N<=H.nx) hN λH hs hN=>?_;refine C1.nk 53 [] Tryz.func182 λtm h0 h1 h2 h3=>?_;unfold Go.Sort.insertionSort;generalize E0:Go.Sort.insOuter (ltF cf) a b (a+1) d=R;have fin:∀(A:ag)(H3:Hp)(dc:Array α),A.dfr=[]->Fr (λk=>k=id) H H3->Srt c H3 id gen n dc->dc=R->∃w H4,aH E2 [] (.normal,A,H3)=.ok [(w,H4)]/\Fr (λk=>k=id) H H4/\∀lg':List Nat,w=.tup []/\Srt c ⟨H4.t,H4.nx,lg'⟩ id gen n R:=λA H3 dc h1 h2 h3 h4=>⟨_,H3,bp (.inl rfl) h1,h2,λ_=>⟨rfl,by rw[<-h4];exact h3⟩⟩;have hid:=hs.lt;have I4:=bw a;replace E0:=ah E0;refine zW tyF ?_;refine R1.cR λK k1 k2 k3 k4=>?_;refine R1.loop (λz A H3=>∃(i:Nat)(dc:Array α),z=b-i/\a+1<=i/\i<=n+1/\Fr (λk=>k=id) H H3/\Srt c H3 id gen n dc/\Hd (Go.Sort.insOuter (ltF cf) a b i dc=R)/\iC A id gen n (ja A a (eJ A b (slot A.tm 3=.one (.o (.clo cl []))/\fI A i (A.nt=53/\A.dfr=[]))))) ?_ (b-(a+1))
  ⟨a+1,d,rfl,ai _,aa,Fr.refl _,hs,E0,zL⟩
 clear h0 h1 h2 h3 tm hs E0 hid I4 k3;rintro z A H3 ⟨i,dc,rfl,hia,X1,f3,hs,hr,t0,t1,t2,t3,t8,A0,B0⟩;have hid:=hs.lt;refine zW tyF ?_;refine zI tyF (λhc'=>?_) (λhc'=>?_)
 ·have hib:i<b:=aa;have C0:=hr.out;rw[Go.Sort.insOuter,ad hib]at C0;clear hr;replace C0:=ah C0;have Z7:=bw i;refine zW tyF ?_;refine R1.ed λK2 q1 q2 q3 q4=>?_;refine zW tyF ?_;refine R1.cR λK3 p1 p2 p3 p4=>?_;refine R1.loop (λz A H4=>∃(j:Nat)(dj:Array α),z=j/\j<=i/\Fr (λk=>k=id) H H4/\Srt c H4 id gen n dj/\Hd (Go.Sort.insOuter (ltF cf) a b (i+1) (Go.Sort.insInner (ltF cf) a j dj)=R)/\iC A id gen n (ja A a (eJ A b (slot A.tm 3=.one (.o (.clo cl []))/\fI A i (pz A j (A.nt=53/\A.dfr=[])))))) ?_ i
   ⟨i,dc,rfl,ai _,f3,hs,C0,zL⟩
  clear t0 t1 t2 t3 t8 A0 B0 A C0 hs hid f3 p3 q3;rintro j A H4 ⟨_,dj,rfl,hji,f4,hs,hr,t0,t1,t2,t3,t8,t9,A0,B0⟩;have hid:=hs.lt;by_cases hja:a<j
  ·obtain⟨j,rfl⟩:∃k,j=k+1:=⟨j-1,aa⟩;have hja':(a:Int)<((j+1:Nat):Int):=aa;have hwj:IntKind.i64.wrap (((j+1:Nat):Int)-1)=(j:Int):=by rw[aI aa aa];omega
   obtain⟨lo,Y1,hg⟩:=hs.row;have K0:=hs.sz;have hj1:j+1<n:=aa;have hj0:j<n:=aa;have lv:=hm.ltH (aD hN f4.nx);have W0:=hm.len;replace K0:=ah K0;refine zG (zDe tyF (ixC hj1) (ixC hj0) (rdQ hm.len (d:=dj) (i:=j+1) (j:=j) (by have:=K0.out;omega) (by have:=K0.out;omega))) λK hK=>?_;refine WE.con (hm.con H4 dj[j+1]! dj[j]! (aD hN f4.nx)) λw' H5 g5 hq=>?_;subst hq;obtain⟨hg,hid⟩:=bq g5 hid hg;have lv:=hm.ltH (aD hN (aD f4.nx g5.nx));have f5:=f4.then g5 λ_ h=>h.elim;have L0:=hr.out;rw[Go.Sort.insInner]at L0;by_cases V3:cf dj[j+1]! dj[j]!<0
   ·have Z2:(decide (j+1>a)&&ltF cf dj[j+1]! dj[j]!)=true:=by rw[aL (by omega:j+1>a)];exact aL V3
    rw[ad Z2]at L0;clear hr Z2;replace L0:=ah L0;refine zK tyF ?_;refine R1.ed λK4 u1 u2 u3 u4=>?_;refine zW (zDe tyF (ixC hj1) (ixC hj0) (swQ hm.len (d:=dj) (i:=j+1) (j:=j) (by have:=K0.out;omega) (by have:=K0.out;omega))) ?_;apply u1.out;refine zW tyF ?_;exact⟨j,aZ _,j,Go.Sort.swp dj (j+1) j,rfl,aa,(f5.mod _ (.inr rfl)).mod _ (.inr rfl),⟨by rw[swp_size];exact K0.out,⟨gen,ai _,ao rfl⟩,hid⟩,L0,zL⟩
   have Z2:(decide (j+1>a)&&ltF cf dj[j+1]! dj[j]!)=false:=by rw[aL (by omega:j+1>a)];exact aV V3
   rw[ab (by rw[Z2];decide)]at L0;clear hr Z2;replace L0:=ah L0;refine zK tyF ?_;apply p2.out;apply q1.out;refine zW tyF ?_;exact⟨b-(i+1),aa,i+1,dj,rfl,aa,aa,f5,⟨K0.out,⟨lo,Y1,hg⟩,hid⟩,L0,zL⟩
  have hja':¬(a:Int)<(j:Int):=aa;have L0:=hr.out;have X1:Go.Sort.insInner (ltF cf) a j dj=dj:=by
   cases j with
   |zero=>rfl
   |succ j=>rw[Go.Sort.insInner,aV (by omega:¬j+1>a),Bool.false_and,ab aE]
  rw[X1]at L0;clear hr X1;replace L0:=ah L0;refine zW tyF ?_;apply p2.out;apply q1.out;refine zW tyF ?_;exact⟨b-(i+1),aa,i+1,dj,rfl,aa,aa,f4,hs,L0,zL⟩
 have hib:¬i<b:=aa;have C0:=hr.out;rw[Go.Sort.insOuter,ab hib]at C0;refine zW tyF ?_;apply k2.out;exact fin _ _ _ qe f3 hs C0
end
def uC:aq prog 194=true:=ae
def Nh:aq prog 183=true:=ae
section
variable{α:Type}[Inhabited α]{c:α->List AC}{cf:α->α->Int}{cl N:Nat}
theorem rE(hm:Cmp c cf cl N)(H:Hp)(id gen n:Nat)(d:Array α)(root hi first:Nat)(hs:Srt c H id gen n d)(hN:N<=H.nx)(hf:first+hi<=n)(hr:root<=n)(hn:n<=1099511627776):
  Con E2 194 [.one (.o (.sl id gen 0 n 4)),.one (.i .i64 root),.one (.i .i64 hi),.one (.i .i64 first),.one (.o (.clo cl []))] H (λk=>k=id) λr H'=>r=.tup []/\Srt c H' id gen n (Go.Sort.siftDown (ltF cf) hi first root d):=by
 have hbd:=hm.bd;refine Con.iM (λH=>Srt c H id gen n d) hs (λH=>N<=H.nx) hN λH hs hN=>?_;refine C1.EP 82 [] Tryz.func194 λtm h0 h1 h2 h3 h4=>?_;generalize E0:Go.Sort.siftDown (ltF cf) hi first root d=R;have fin:∀(e:ax)(A:ag)(H3:Hp)(dc:Array α),(e=.normal\/e=.ret)->A.dfr=[]->Fr (λk=>k=id) H H3->Srt c H3 id gen n dc->dc=R->∃w H4,aH E2 [] (e,A,H3)=.ok [(w,H4)]/\Fr (λk=>k=id) H H4/\∀lg':List Nat,w=.tup []/\Srt c ⟨H4.t,H4.nx,lg'⟩ id gen n R:=λe A H3 dc he h1 h2 h3 h4=>⟨_,H3,bp he h1,h2,λ_=>⟨rfl,by rw[<-h4];exact h3⟩⟩;have hid:=hs.lt;replace E0:=ah E0;refine zW tyF ?_;refine R1.cR λK k1 k2 k3 k4=>?_;refine R1.loop (λz A H3=>∃(ro:Nat)(dc:Array α),z=n+1-ro/\ro<=n/\Fr (λk=>k=id) H H3/\Srt c H3 id gen n dc/\Hd (Go.Sort.siftDown (ltF cf) hi first ro dc=R)/\iC A id gen n (eJ A hi (dw A first (kO A 4 10 (.o (.clo cl [])) (.i .i64 (ro:Int)) 82 [])))) ?_ (n+1-root)
  ⟨root,d,rfl,hr,Fr.refl _,hs,E0,zL⟩
 clear h0 h1 h2 h3 h4 tm hs E0 hid k3;rintro z A H3 ⟨ro,dc,rfl,hro,f3,hs,hr,t0,t2,t3,t4,t10,A0,B0⟩;have hid:=hs.lt;have K0:=hs.sz;obtain⟨lo,Y1,hg⟩:=hs.row;replace K0:=ah K0;have hwa:IntKind.i64.wrap (2*(ro:Int))=((2*ro:Nat):Int):=by rw[aI aa aa];omega
 have hwb:IntKind.i64.wrap (((2*ro:Nat):Int)+1)=((2*ro+1:Nat):Int):=by rw[aI aa aa];omega
 have C0:=hr.out;rw[Go.Sort.siftDown]at C0;refine R1.cR λK2 q1 q2 q3 q4=>?_;by_cases hch:hi<=2*ro+1
 ·rw[dif_pos hch]at C0;have U4:(hi:Int)<=((2*ro+1:Nat):Int):=aa;replace C0:=ah C0;clear hr;refine zW tyF ?_;refine q3.out _ _ _ aE ?_;apply k2.out;exact fin _ _ _ _ (.inl rfl) qe f3 hs C0.out
 rw[dif_neg hch]at C0;have U4:¬(hi:Int)<=((2*ro+1:Nat):Int):=aa;clear hr;replace C0:=ah C0;refine zW tyF ?_;have lv:=hm.ltH (aD hN f3.nx);have W0:=hm.len;have hwc:IntKind.i64.wrap (((2*ro+1:Nat):Int)+1)=((2*ro+2:Nat):Int):=by rw[aI aa aa];omega
 have hwd:IntKind.i64.wrap ((first:Int)+((2*ro+1:Nat):Int))=((first+(2*ro+1):Nat):Int):=by rw[aI aa aa];omega
 have hwe:IntKind.i64.wrap (((first+(2*ro+1):Nat):Int)+1)=((first+(2*ro+1)+1:Nat):Int):=by rw[aI aa aa];omega
 repeat refine R1.aM ?_
 refine R1.s_h ae λK3 L7=>?_;have tail:Hd (∀(bb:Bool)(A:ag)(H4:Hp),Fr (λk=>k=id) H H4->Srt c H4 id gen n dc->(bb=true->2*ro+2<hi)->Hd ((if bb=true then(if(!ltF cf dc[first+ro]! dc[first+(2*ro+2)]!)=true then dc else if 2*ro+2<hi then Go.Sort.siftDown (ltF cf) hi first (2*ro+2) (Go.Sort.swp dc (first+ro) (first+(2*ro+2)))else dc)else(if(!ltF cf dc[first+ro]! dc[first+(2*ro+1)]!)=true then dc else Go.Sort.siftDown (ltF cf) hi first (2*ro+1) (Go.Sort.swp dc (first+ro) (first+(2*ro+1)))))=R)->slot A.tm 40=.one (.b bb)/\iC A id gen n (eJ A hi (dw A first (slot A.tm 4=.one (.o (.clo cl []))/\jc A ro (2*ro+1:Nat) (A.nt=82/\A.dfr=[]))))->K3 A H4):=by
  clear t0 t2 t3 t4 t10 A0 B0 A hs hg hid C0 f3 lv Y1 hwd hwe U4;rintro bb A H4 f4 hs u7 hr ⟨t40,t0,t2,t3,t4,t10,t11,A0,B0⟩;apply L7.out;refine R1.eV (λB H5=>∃ch:Nat,ro<ch/\ch<hi/\H4=H5/\Hd ((if(!ltF cf dc[first+ro]! dc[first+ch]!)=true then dc else Go.Sort.siftDown (ltF cf) hi first ch (Go.Sort.swp dc (first+ro) (first+ch)))=R)/\iC B id gen n (eJ B hi (dw B first (slot B.tm 4=.one (.o (.clo cl []))/\jc B ro ch (B.nt=82/\B.dfr=[]))))) (λK4 m1 m2 m3=>?_) ?_
  ·cases bb with
   |true=>have h2:=u7 rfl;have C0:=hr.out;rw[ad rfl,ad h2]at C0;clear hr hs u7;replace C0:=ah C0;refine zW tyF ?_;apply m1.out;exact⟨2*ro+2,aa,h2,rfl,C0,zL⟩
   |false=>have C0:=hr.out;rw[ab aE]at C0;clear hr hs u7;replace C0:=ah C0;refine zW tyF ?_;apply m1.out;exact⟨2*ro+1,aa,aa,rfl,C0,zL⟩
  clear t0 t2 t3 t4 t10 t11 t40 A0 B0 A hr u7 bb hwa hwb hwc hch;rintro A _ ⟨ch,hrc,hch,rfl,hr,t0,t2,t3,t4,t10,t11,A0,B0⟩;have hid:=hs.lt;obtain⟨lo,Y1,hg⟩:=hs.row;have lv:=hm.ltH (aD hN f4.nx);have I4:IntKind.i64.wrap ((first:Int)+(ro:Int))=((first+ro:Nat):Int):=by rw[aI aa aa];omega
  have N2:IntKind.i64.wrap ((first:Int)+(ch:Int))=((first+ch:Nat):Int):=by rw[aI aa aa];omega
  have b1:first+ro<n:=aa;have b2:first+ch<n:=aa;have d1:first+ro<dc.size:=by have:=K0.out;omega
  have d2:first+ch<dc.size:=by have:=K0.out;omega
  replace d1:=ah d1;replace d2:=ah d2;refine zG (zDe tyF (ixC b1) (ixC b2) (rdQ hm.len d1.out d2.out)) λK hK=>?_;refine WE.con (hm.con H4 dc[first+ro]! dc[first+ch]! (aD hN f4.nx)) λw' H5 g5 hq=>?_;subst hq;have Q1:=hs.fr g5 aF;obtain⟨hg,hid⟩:=bq g5 hid hg;have lv:=hm.ltH (aD hN (aD f4.nx g5.nx));have f5:=f4.then g5 λ_ h=>h.elim;have C0:=hr.out;clear hr hs f4 g5;by_cases V3:cf dc[first+ro]! dc[first+ch]!<0
  ·have Z2:(!ltF cf dc[first+ro]! dc[first+ch]!)=false:=by unfold ltF;rw[aL V3];rfl
   rw[Z2,ab aE]at C0;clear Z2 Q1;replace C0:=ah C0;refine zK (zDe tyF (ixC b1) (ixC b2) (swQ hm.len d1.out d2.out)) ?_;apply q1.out;exact⟨n+1-ch,aa,ch,Go.Sort.swp dc (first+ro) (first+ch),rfl,aa,(f5.mod _ (.inr rfl)).mod _ (.inr rfl),⟨by rw[swp_size];exact K0.out,⟨gen,ai _,ao rfl⟩,hid⟩,C0,zL⟩
  have Z2:(!ltF cf dc[first+ro]! dc[first+ch]!)=true:=by unfold ltF;rw[aV V3];rfl
  rw[Z2,ad rfl]at C0;clear Z2;replace C0:=ah C0;replace Q1:=ah Q1;refine zK tyF ?_;refine q4.out _ _ (k4.out _ _ ?_);exact fin _ _ _ _ (.inr rfl) qe f5 Q1.out C0.out
 by_cases h2:2*ro+2<hi
 ·have h2i:((2*ro+2:Nat):Int)<(hi:Int):=aa;have b1:first+(2*ro+1)<n:=aa;have b2:first+(2*ro+1)+1<n:=aa;have d1:first+(2*ro+1)<dc.size:=by have:=K0.out;omega
  have d2:first+(2*ro+1)+1<dc.size:=by have:=K0.out;omega
  replace d1:=ah d1;replace d2:=ah d2;refine zS (zDe tyF (ixC b1) (ixC b2) (rdQ hm.len d1.out d2.out)) ?_;refine WE.con (hm.con H3 dc[first+(2*ro+1)]! dc[first+(2*ro+1)+1]! (aD hN f3.nx)) λw' H5 g5 hq=>?_;subst hq;have Q1:=hs.fr g5 aF;have f5:=f3.then g5 λ_ h=>h.elim;have O0:=C0.out;have e0:(decide (2*ro+1+1<hi)&&ltF cf dc[first+(2*ro+1)]! dc[first+(2*ro+1)+1]!)=decide (cf dc[first+(2*ro+1)]! dc[first+(2*ro+1)+1]!<0):=by rw[aL (by omega:2*ro+1+1<hi)];rfl
  rw[e0]at O0;clear C0 e0 hs g5;replace O0:=ah O0;replace Q1:=ah Q1;replace f5:=ah f5;refine zS tyF ?_;exact tail.out (decide (cf dc[first+(2*ro+1)]! dc[first+(2*ro+1)+1]!<0)) _ _ f5.out Q1.out (λ_=>h2) O0 zL
 have h2i:¬((2*ro+2:Nat):Int)<(hi:Int):=aa;have O0:=C0.out;rw[aV (by omega:¬2*ro+1+1<hi),Bool.false_and]at O0;clear C0;replace O0:=ah O0;refine zS tyF ?_;exact tail.out false _ _ f3 hs (λh=>by cases h) O0 zL
theorem Ix(hm:Cmp c cf cl N)(H:Hp)(id gen n:Nat)(d:Array α)(a b:Nat)(hs:Srt c H id gen n d)(hN:N<=H.nx)(A6:a<=b)(hb:b<=n)(hn:n<=1099511627776):
  Con E2 183 [.one (.o (.sl id gen 0 n 4)),.one (.i .i64 a),.one (.i .i64 b),.one (.o (.clo cl []))] H (λk=>k=id) λr H'=>r=.tup []/\Srt c H' id gen n (Go.Sort.heapSort (ltF cf) d a b):=by
 have hbd:=hm.bd;refine Con.iM (λH=>Srt c H id gen n d) hs (λH=>N<=H.nx) hN λH hs hN=>?_;refine C1.nk 60 [] Tryz.func183 λtm h0 h1 h2 h3=>?_;unfold Go.Sort.heapSort;generalize E0:Go.Sort.heapPop (ltF cf) a (b-a) (Go.Sort.heapBuild (ltF cf) (b-a) a ((b-a-1)/2+1) d)=R;have fin:∀(e:ax)(A:ag)(H3:Hp)(dc:Array α),(e=.normal\/e=.ret)->A.dfr=[]->Fr (λk=>k=id) H H3->Srt c H3 id gen n dc->dc=R->∃w H4,aH E2 [] (e,A,H3)=.ok [(w,H4)]/\Fr (λk=>k=id) H H4/\∀lg':List Nat,w=.tup []/\Srt c ⟨H4.t,H4.nx,lg'⟩ id gen n R:=λe A H3 dc he h1 h2 h3 h4=>⟨_,H3,bp he h1,h2,λ_=>⟨rfl,by rw[<-h4];exact h3⟩⟩;have hid:=hs.lt;obtain⟨w,hw⟩:∃w,w=b-a:=⟨_,rfl⟩;rw[<-hw]at E0;have hw0:IntKind.i64.wrap ((b:Int)-(a:Int))=(w:Int):=by rw[aI aa aa];omega
 have I4:=bZ ((w:Int)-1);have N2:IntKind.i64.wrap (((w:Int)-1).tdiv 2)=(((w-1)/2:Nat):Int):=by
  rcases rP w with h|h
  ·rw[h];decide
  rw[rQ aa,aI aa aa];omega
 replace E0:=ah E0;replace hw:=ah hw;refine zW (zDd tyF arQ (tS (show(2:Int)≠0 by decide))) ?_;refine R1.ed λK k1 k2 k3 k4=>?_;refine R1.loop (λz A H3=>∃(dc:Array α),z<=(w-1)/2+1/\Fr (λk=>k=id) H H3/\Srt c H3 id gen n dc/\Hd (Go.Sort.heapPop (ltF cf) a w (Go.Sort.heapBuild (ltF cf) w a z dc)=R)/\iC A id gen n (slot A.tm 3=.one (.o (.clo cl []))/\fI A a (slot A.tm 9=.one (.i .i64 (0:Int))/\jc A w ((z:Int)-1) (A.nt=60/\A.dfr=[])))) ?_ ((w-1)/2+1)
  ⟨d,ai _,Fr.refl _,hs,E0,by rw[show((((w-1)/2+1:Nat):Int)-1)=(((w-1)/2:Nat):Int)from by omega];exact zL⟩
 clear h0 h1 h2 h3 tm hs E0 hid hw0 N2 k3;rintro z A H3 ⟨dc,hz,f3,hs,hr,t0,t3,t8,t9,t10,t11,A0,B0⟩;have hid:=hs.lt;cases z with
 |succ k=>rw[show(((k+1:Nat):Int)-1)=(k:Int)from by omega]at t11;have C4:(0:Int)<=(k:Int):=aa;have hww:=hw.out;have hwk:=bZ ((k:Int)-1);clear hww;refine zW tyF ?_;refine R1.ed λK2 q1 q2 q3 q4=>?_;refine zG (qA tyF uC) λK5 U0=>?_;have hww:=hw.out;refine WE.con (rE hm H3 id gen n dc k w a hs (aD hN f3.nx) aa aa hn) λw' H4 g4⟨hq,O3⟩=>?_;subst hq;have C0:=hr.out;rw[Go.Sort.heapBuild]at C0;clear hr;replace C0:=ah C0;refine zK tyF ?_;apply q1.out;refine zW tyF ?_;exact⟨k,aZ _,Go.Sort.siftDown (ltF cf) w a k dc,aa,f3.then g4 (λ_ h=>.inr h),O3,C0,zL⟩
 |zero=>
  replace t11:slot A.tm 11=.one (.i .i64 (-1)):=t11;have C4:¬(0:Int)<=-1:=aE;have C0:Hd (Go.Sort.heapPop (ltF cf) a w dc=R):=hr;refine zW tyF ?_;apply k2.out;refine zW tyF ?_;refine R1.cR λK2 q1 q2 q3 q4=>?_;refine R1.loop (λz A H3=>∃(dc:Array α),z<=w/\Fr (λk=>k=id) H H3/\Srt c H3 id gen n dc/\Hd (Go.Sort.heapPop (ltF cf) a z dc=R)/\iC A id gen n (slot A.tm 3=.one (.o (.clo cl []))/\fI A a (slot A.tm 9=.one (.i .i64 (0:Int))/\mX A ((z:Int)-1) (A.nt=60/\A.dfr=[])))) ?_ w
   ⟨dc,ai _,f3,hs,C0,zL⟩
  clear t0 t3 t8 t9 t10 t11 A0 B0 A hs f3 hid hr C0 q3 I4;rintro z A H3 ⟨dc,hz,f3,hs,hr,t0,t3,t8,t9,t12,A0,B0⟩;have hid:=hs.lt;cases z with
  |succ k=>
   rw[show(((k+1:Nat):Int)-1)=(k:Int)from by omega]at t12;have C4:(0:Int)<=(k:Int):=aa;have hww:=hw.out;have hwk:=bZ ((k:Int)-1);have hwa:IntKind.i64.wrap ((a:Int)+(k:Int))=((a+k:Nat):Int):=by rw[aI aa aa];omega
   obtain⟨lo,Y1,hg⟩:=hs.row;have K0:=hs.sz;have lv:=hm.ltH (aD hN f3.nx);have W0:=hm.len;have b1:a<n:=aa;have b2:a+k<n:=aa;have d1:a<dc.size:=aa;have d2:a+k<dc.size:=aa;have E4:=aD hN f3.nx;replace d1:=ah d1;replace d2:=ah d2;replace K0:=ah K0;replace hww:=ah hww;refine zW tyF ?_;refine R1.ed λK3 u1 u2 u3 u4=>?_;refine zW (zDe tyF (ixC b1) (ixC b2) (swQ hm.len d1.out d2.out)) ?_;have f4:Fr (λk=>k=id) H ((H3.mod id (.arr (cm c (dc.setIfInBounds a dc[a+k]!)) 80 gen gen)).mod id (.arr (cm c (Go.Sort.swp dc a (a+k))) 80 gen gen)):=(f3.mod _ (.inr rfl)).mod _ (.inr rfl);have O3:Srt c ((H3.mod id (.arr (cm c (dc.setIfInBounds a dc[a+k]!)) 80 gen gen)).mod id (.arr (cm c (Go.Sort.swp dc a (a+k))) 80 gen gen)) id gen n (Go.Sort.swp dc a (a+k)):=⟨by rw[swp_size];exact K0.out,⟨gen,ai _,ao rfl⟩,hid⟩;clear hg Y1 lo;replace f4:=ah f4;replace O3:=ah O3;refine zG (qA tyF uC) λK5 U0=>?_;refine WE.con (rE hm _ id gen n (Go.Sort.swp dc a (a+k)) 0 k a O3.out E4 (by have:=hww.out;omega) (Nat.zero_le _) hn) λw' H5 g5⟨hq,Q1⟩=>?_;subst hq;have C0:=hr.out;rw[Go.Sort.heapPop]at C0;clear hr;replace C0:=ah C0;refine zK tyF ?_;apply u1.out;refine zW tyF ?_;exact⟨k,aZ _,Go.Sort.siftDown (ltF cf) k a 0 (Go.Sort.swp dc a (a+k)),aa,f4.out.then g5 (λ_ h=>.inr h),Q1,C0,zL⟩
  |zero=>replace t12:slot A.tm 12=.one (.i .i64 (-1)):=t12;have C0:dc=R:=hr;refine zW tyF ?_;apply q2.out;exact fin _ _ _ _ (.inl rfl) qe f3 hs C0
end
def oz:aq prog 198=true:=ae
def oy:aq prog 196=true:=ae
def ox:aq prog 195=true:=ae
def Ni:aq prog 185=true:=ae
def Ctr(H:Hp)(q k:Nat):Prop:=H.get q=some (.arr [.i .i64 (k:Int)] 3 0 0)/\q<H.nx
section
variable{α:Type}[Inhabited α]{c:α->List AC}{cf:α->α->Int}{cl N:Nat}
theorem lL(hm:Cmp c cf cl N)(H:Hp)(id gen n:Nat)(d:Array α)(a b q k:Nat)(hs:Srt c H id gen n d)(hq:Ctr H q k)(hqi:q≠id)(hN:N<=H.nx)(ha:a<n)(hb:b<n)(hn:n<=1099511627776)(hk:k<=1000):
  Con E2 198 [.one (.o (.sl id gen 0 n 4)),.one (.i .i64 a),.one (.i .i64 b),.one (.o (.ptr q 0 0 1)),.one (.o (.clo cl []))] H (λj=>j=q) λr H'=>r=.tup [(false,[.i .i64 ((Go.Sort.order2 (ltF cf) d a b k).1:Int)]),(false,[.i .i64 ((Go.Sort.order2 (ltF cf) d a b k).2.1:Int)])]/\Ctr H' q (Go.Sort.order2 (ltF cf) d a b k).2.2:=by
 have hbd:=hm.bd;refine Con.Fk (λH=>Srt c H id gen n d) hs (λH=>N<=H.nx) hN (λH=>Ctr H q k) hq λH hs hN hq=>?_;refine C1.EP 32 [.tmp 10,.tmp 11] Tryz.func198 λtm h0 h1 h2 h3 h4=>?_;generalize E0:Go.Sort.order2 (ltF cf) d a b k=R;have fin:∀(A:ag)(H3:Hp)(x y:Nat),slot A.tm 10=.one (.i .i64 (x:Int))->slot A.tm 11=.one (.i .i64 (y:Int))->A.dfr=[]->Fr (λj=>j=q) H H3->Ctr H3 q R.2.2->x=R.1->y=R.2.1->∃w H4,aH E2 [.tmp 10,.tmp 11] (.ret,A,H3)=.ok [(w,H4)]/\Fr (λj=>j=q) H H4/\∀lg':List Nat,w=.tup [(false,[.i .i64 (R.1:Int)]),(false,[.i .i64 (R.2.1:Int)])]/\Ctr ⟨H4.t,H4.nx,lg'⟩ q R.2.2:=λA H3 x y h1 h2 hd h3 h4 h5 h6=>⟨_,H3,bC (.i .i64 x) (.i .i64 y) (.inr rfl) hd h1 h2,h3,λ_=>⟨by rw[h5,h6],h4⟩⟩;have hid:=hs.lt;have K0:=hs.sz;obtain⟨lo,Y1,hg⟩:=hs.row;obtain⟨P6,q6⟩:=hq;have lv:=hm.ltH hN;have W0:=hm.len;have d1:a<d.size:=aa;have d2:b<d.size:=aa;replace E0:=ah E0;replace K0:=ah K0;replace d1:=ah d1;replace d2:=ah d2;refine zW tyF ?_;refine zG (zDe tyF (ixC ha) (ixC hb) (rdQ hm.len d1.out d2.out)) λK hK=>?_;refine WE.con (hm.con H d[b]! d[a]! hN) λw' H5 g5 hq'=>?_;subst hq';obtain⟨hg,hid⟩:=bq g5 hid hg;obtain⟨P6,q6⟩:=bq g5 q6 P6;have f5:Fr (λj=>j=q) H H5:=(Fr.refl _).then g5 λ_ h=>h.elim;have C0:=E0.out;unfold Go.Sort.order2 at C0;by_cases V3:cf d[b]! d[a]!<0
 ·rw[ad (show ltF cf d[b]! d[a]! = true from aL V3)]at C0;have hwk:=bw k;clear E0;replace C0:=ah C0;refine zK tyF ?_;exact fin _ _ b a qp qp qe (f5.mod _ (.inr rfl)) ⟨by rw[<-C0.out];exact ao rfl,q6⟩ (by rw[<-C0.out]) (by rw[<-C0.out])
 rw[ab (by unfold ltF;rw[aV V3];decide)]at C0;clear E0;replace C0:=ah C0;refine zK tyF ?_;exact fin _ _ a b qp qp qe f5 ⟨by rw[<-C0.out];exact P6,q6⟩ (by rw[<-C0.out]) (by rw[<-C0.out])
theorem lK{lt:α->α->Bool}{d:Array α}{a b k n:Nat}(ha:a<n)(hb:b<n):(Go.Sort.order2 lt d a b k).1<n/\(Go.Sort.order2 lt d a b k).2.1<n/\(Go.Sort.order2 lt d a b k).2.2<=k+1:=by
 unfold Go.Sort.order2;split
 ·exact⟨hb,ha,ai _⟩
 exact⟨ha,hb,Nat.le_succ _⟩
theorem lI(hm:Cmp c cf cl N)(H:Hp)(id gen n:Nat)(d:Array α)(a b e q k:Nat)(hs:Srt c H id gen n d)(hq:Ctr H q k)(hqi:q≠id)(hN:N<=H.nx)(ha:a<n)(hb:b<n)(he:e<n)(hn:n<=1099511627776)(hk:k<=100):
  Con E2 196 [.one (.o (.sl id gen 0 n 4)),.one (.i .i64 a),.one (.i .i64 b),.one (.i .i64 e),.one (.o (.ptr q 0 0 1)),.one (.o (.clo cl []))] H (λj=>j=q) λr H'=>r=.one (.i .i64 ((Go.Sort.median (ltF cf) d a b e k).1:Int))/\Ctr H' q (Go.Sort.median (ltF cf) d a b e k).2:=by
 refine Con.Fk (λH=>Srt c H id gen n d) hs (λH=>N<=H.nx) hN (λH=>Ctr H q k) hq λH hs hN hq=>?_;refine C1.aaC 41 [.tmp 12] Tryz.func196 λtm h0 h1 h2 h3 h4 h5=>?_;generalize E0:Go.Sort.median (ltF cf) d a b e k=R;unfold Go.Sort.median at E0;have hid:=hs.lt;have O8:=hq.2;replace E0:=ah E0;refine zW tyF ?_;refine zG (qA tyF oz) λK hK=>?_;refine WE.con (lL hm H id gen n d a b q k hs hq hqi hN ha hb hn aa) λw' H1 g1⟨hw,P6⟩=>?_;subst hw;obtain⟨x1,x2,x3⟩:=@lK α _ (ltF cf) d a b k n ha hb;generalize Go.Sort.order2 (ltF cf) d a b k=r1 at E0 P6 x1 x2 x3 |-;have R4:=hs.fr g1 (λh=>hqi h.symm);have hid1:=R4.lt;have hql1:=P6.2;have hN1:=aD hN g1.nx;refine zK tyF ?_;refine zG (qA tyF oz) λK hK=>?_;refine WE.con (lL hm H1 id gen n d r1.2.1 e q r1.2.2 R4 P6 hqi hN1 x2 he hn aa) λw' H2 g2⟨hw,q6⟩=>?_;subst hw;obtain⟨y1,y2,y3⟩:=@lK α _ (ltF cf) d r1.2.1 e r1.2.2 n x2 he;have C0:(let r3:=Go.Sort.order2 (ltF cf) d r1.1 (Go.Sort.order2 (ltF cf) d r1.2.1 e r1.2.2).1 (Go.Sort.order2 (ltF cf) d r1.2.1 e r1.2.2).2.2;(r3.2.1,r3.2.2))=R:=E0.out;clear E0;generalize Go.Sort.order2 (ltF cf) d r1.2.1 e r1.2.2=r2 at C0 q6 y1 y2 y3 |-;have F2:=R4.fr g2 (λh=>hqi h.symm);have hid2:=F2.lt;have hql2:=q6.2;have hN2:=aD hN1 g2.nx;replace C0:=ah C0;refine zK tyF ?_;refine zG (qA tyF oz) λK hK=>?_;refine WE.con (lL hm H2 id gen n d r1.1 r2.1 q r2.2.2 F2 q6 hqi hN2 x1 y1 hn aa) λw' H3 g3⟨hw,hq3⟩=>?_;subst hw;have O0:=C0.out;clear C0;generalize Go.Sort.order2 (ltF cf) d r1.1 r2.1 r2.2.2=r3 at O0 hq3 |-;replace O0:(r3.2.1,r3.2.2)=R:=O0;replace O0:=ah O0;refine zK tyF ?_;exact⟨_,_,au (.i .i64 (r3.2.1:Int)) (.inr rfl) qe qp,(g1.then g2 λ_ h=>.inr h).then g3 (λ_ h=>.inr h),λ_=>by rw[<-O0.out];exact⟨rfl,hq3⟩⟩
theorem tN{lt:α->α->Bool}{d:Array α}{a b e k n:Nat}(ha:a<n)(hb:b<n)(he:e<n):(Go.Sort.median lt d a b e k).1<n/\(Go.Sort.median lt d a b e k).2<=k+3:=by obtain⟨x1,x2,x3⟩:=@lK α _ lt d a b k n ha hb;obtain⟨y1,y2,y3⟩:=@lK α _ lt d (Go.Sort.order2 lt d a b k).2.1 e (Go.Sort.order2 lt d a b k).2.2 n x2 he;obtain⟨z1,z2,z3⟩:=@lK α _ lt d (Go.Sort.order2 lt d a b k).1 (Go.Sort.order2 lt d (Go.Sort.order2 lt d a b k).2.1 e (Go.Sort.order2 lt d a b k).2.2).1 (Go.Sort.order2 lt d (Go.Sort.order2 lt d a b k).2.1 e (Go.Sort.order2 lt d a b k).2.2).2.2 n x1 y1;exact⟨z2,by unfold Go.Sort.median;show _<=_;dsimp only;omega⟩
theorem lH(hm:Cmp c cf cl N)(H:Hp)(id gen n:Nat)(d:Array α)(a q k:Nat)(hs:Srt c H id gen n d)(hq:Ctr H q k)(hqi:q≠id)(hN:N<=H.nx)(h1:1<=a)(ha:a+1<n)(hn:n<=1099511627776)(hk:k<=100):
  Con E2 195 [.one (.o (.sl id gen 0 n 4)),.one (.i .i64 a),.one (.o (.ptr q 0 0 1)),.one (.o (.clo cl []))] H (λj=>j=q) λr H'=>r=.one (.i .i64 ((Go.Sort.medianAdjacent (ltF cf) d a k).1:Int))/\Ctr H' q (Go.Sort.medianAdjacent (ltF cf) d a k).2:=by
 have h1a:=h1;clear h1;refine Con.Fk (λH=>Srt c H id gen n d) hs (λH=>N<=H.nx) hN (λH=>Ctr H q k) hq λH hs hN hq=>?_;refine C1.nk 18 [.tmp 8] Tryz.func195 λtm h0 h1 h2 h3=>?_;unfold Go.Sort.medianAdjacent;generalize E0:Go.Sort.median (ltF cf) d (a-1) a (a+1) k=R;replace E0:=ah E0;have hid:=hs.lt;have O8:=hq.2;have I4:IntKind.i64.wrap ((a:Int)-1)=((a-1:Nat):Int):=by rw[aI aa aa];omega
 have N2:=bw a;refine zW tyF ?_;refine zG (qA tyF oy) λK hK=>?_;refine WE.con (lI hm H id gen n d (a-1) a (a+1) q k hs hq hqi hN aa aa ha hn hk) λw' H1 g1⟨hw,P6⟩=>?_;subst hw;rw[E0.out]at P6 |-;refine zK tyF ?_;exact⟨_,_,au (.i .i64 (R.1:Int)) (.inr rfl) qe qp,g1,λ_=>⟨rfl,P6⟩⟩
theorem tM{lt:α->α->Bool}{d:Array α}{a k n:Nat}(ha:a+1<n):(Go.Sort.medianAdjacent lt d a k).1<n/\(Go.Sort.medianAdjacent lt d a k).2<=k+3:=tN aa aa ha
def qx:Go.Sort.Hint->Int
 |.unknown=>0
 |.increasing=>1
 |.decreasing=>2
theorem Jy(hm:Cmp c cf cl N)(H:Hp)(id gen n:Nat)(d:Array α)(a b:Nat)(hs:Srt c H id gen n d)(hN:N<=H.nx)(A6:a<b)(hb:b<=n)(hn:n<=1099511627776):
  Con E2 185 [.one (.o (.sl id gen 0 n 4)),.one (.i .i64 a),.one (.i .i64 b),.one (.o (.clo cl []))] H (λ_=>False) λr H'=>r=.tup [(false,[.i .i64 ((Go.Sort.choosePivot (ltF cf) d a b).1:Int)]),(false,[.i .i64 (qx (Go.Sort.choosePivot (ltF cf) d a b).2)])]:=by
 refine Con.iM (λH=>Srt c H id gen n d) hs (λH=>N<=H.nx) hN λH hs hN=>?_;refine C1.nk 63 [.tmp 8,.tmp 9] Tryz.func185 λtm h0 h1 h2 h3=>?_;generalize E0:Go.Sort.choosePivot (ltF cf) d a b=R;unfold Go.Sort.choosePivot at E0;dsimp only at E0
 have fin:∀(A:ag)(H3:Hp)(x:Nat)(y:Int)(h:Go.Sort.Hint),slot A.tm 8=.one (.i .i64 (x:Int))->slot A.tm 9=.one (.i .i64 y)->y=qx h->A.dfr=[]->Gr H H3->(x,h)=R->∃w H4,aH E2 [.tmp 8,.tmp 9] (.ret,A,H3)=.ok [(w,H4)]/\Gr H H4/\∀lg':List Nat,w=.tup [(false,[.i .i64 (R.1:Int)]),(false,[.i .i64 (qx R.2)])]:=λA H3 x y h h1 h2 hy hd h3 h4=>⟨_,H3,bC (.i .i64 x) (.i .i64 y) (.inr rfl) hd h1 h2,h3,λ_=>by rw[<-h4,hy]⟩;have hid:=hs.lt;obtain⟨w,hw⟩:∃w,w=b-a:=⟨_,rfl⟩;have hw0:IntKind.i64.wrap ((b:Int)-(a:Int))=(w:Int):=by rw[aI aa aa];omega
 have hwq:IntKind.i64.wrap ((w:Int).tdiv 4)=((w/4:Nat):Int):=by rw[rQ aa,aI aa aa];omega
 have I4:IntKind.i64.wrap (((w/4:Nat):Int)*1)=((w/4*1:Nat):Int):=by rw[aI aa aa];omega
 have N2:IntKind.i64.wrap (((w/4:Nat):Int)*2)=((w/4*2:Nat):Int):=by rw[aI aa aa];omega
 have j5:IntKind.i64.wrap (((w/4:Nat):Int)*3)=((w/4*3:Nat):Int):=by rw[aI aa aa];omega
 have b8:IntKind.i64.wrap ((a:Int)+((w/4*1:Nat):Int))=((a+w/4*1:Nat):Int):=by rw[aI aa aa];omega
 have O6:IntKind.i64.wrap ((a:Int)+((w/4*2:Nat):Int))=((a+w/4*2:Nat):Int):=by rw[aI aa aa];omega
 have hv3:IntKind.i64.wrap ((a:Int)+((w/4*3:Nat):Int))=((a+w/4*3:Nat):Int):=by rw[aI aa aa];omega
 rw[<-hw]at E0;generalize hi1:a+w/4*1=i1 at E0 b8;generalize I2:a+w/4*2=i2 at E0 O6;generalize hi3:a+w/4*3=i3 at E0 hv3;have c1:i1<n:=aa;have c2:i2<n:=aa;have c3:i3<n:=aa;replace E0:=ah E0;replace hw:=ah hw;replace hi1:=ah hi1;replace I2:=ah I2;replace hi3:=ah hi3;refine zW (zDd tyF arQ (tS (show(4:Int)≠0 by decide))) ?_;have gA:Gr H (H.new (.arr [.i .i64 0] 3 0 0)):=(Fr.refl _).new _;have hsA:Srt c (H.new (.arr [.i .i64 0] 3 0 0)) id gen n d:=hs.fr gA aF;have hqA:Ctr (H.new (.arr [.i .i64 0] 3 0 0)) H.nx 0:=⟨aJ rfl,aZ _⟩;have b6:H.nx≠id:=aa;have hqH:H.nx<=H.nx:=ai _;generalize I7:H.nx=q at hqA b6 |-;replace hqH:H.nx<=q:=aa;refine R1.gen (λA1 H1=>Gr H H1/\Srt c H1 id gen n d/\Ctr H1 q 0/\iC A1 id gen n (gU A1.tm 3 10 11 (.o (.clo cl [])) (.i .i64 (w:Int)) (.o (.ptr q 0 0 1)) (hY A1 i1 i2 (kO A1 14 34 (.i .i64 (i3:Int)) (.b (decide ((8:Int)<=(w:Int)))) 63 [])))) ⟨gA,hsA,hqA,zL⟩ ?_;clear h0 h1 h2 h3 tm hs hid b8 O6 hv3 hw0 I4 N2 j5 hwq gA hsA hqA I7;rintro A H1 ⟨g1,hs,hq,t0,t3,t10,t11,t12,t13,t14,t34,A0,B0⟩;have hN1:=aD hN g1.nx;have hid:=hs.lt;have O8:=hq.2;refine R1.eV (λB H3=>∃x k:Nat,Gr H H3/\Ctr H3 q k/\k<=100/\Hd ((x,if k=0 then Go.Sort.Hint.increasing else if k=12 then Go.Sort.Hint.decreasing else Go.Sort.Hint.unknown)=R)/\kO B 11 13 (.o (.ptr q 0 0 1)) (.i .i64 (x:Int)) 63 []) (λK m1 m2 m3=>?_) ?_
 ·have C0:=E0.out;by_cases h8:8<=w
  ·rw[ad h8]at C0;have h8i:(8:Int)<=(w:Int):=aa;by_cases h50:50<=w
   ·rw[ad h50]at C0;have h50i:(50:Int)<=(w:Int):=aa;have e1:=hi1.out;have e2:=I2.out;have e3:=hi3.out;have ew:=hw.out;have p1:1<=i1/\i1+1<n:=aa;have p2:1<=i2/\i2+1<n:=aa;have p3:1<=i3/\i3+1<n:=aa;clear e1 e2 e3 ew E0;obtain⟨x1,y1⟩:=@tM α _ (ltF cf) d i1 0 n p1.2;have k1:=lH hm H1 id gen n d i1 q 0 hs hq b6 hN1 p1.1 p1.2 hn aa;generalize Go.Sort.medianAdjacent (ltF cf) d i1 0=r1 at C0 x1 y1 k1;replace C0:=ah C0;replace p1:=ah p1;replace p2:=ah p2;replace p3:=ah p3;replace k1:=ah k1;refine zW tyF ?_;refine zG (qA tyF ox) λK5 U0=>?_;refine WE.con k1.out λw' H2 g2⟨Q2,q6⟩=>?_;subst Q2;clear k1;have F2:=hs.fr g2 (λh=>b6 h.symm);have hid2:=F2.lt;have hql2:=q6.2;have hN2:=aD hN1 g2.nx;obtain⟨x2,y2⟩:=@tM α _ (ltF cf) d i2 r1.2 n p2.out.2;have k2:=lH hm H2 id gen n d i2 q r1.2 F2 q6 b6 hN2 p2.out.1 p2.out.2 hn aa;have C0:=C0.out;generalize Go.Sort.medianAdjacent (ltF cf) d i2 r1.2=r2 at C0 x2 y2 k2;replace C0:=ah C0;replace k2:=ah k2;refine zK tyF ?_;refine zG (qA tyF ox) λK5 U0=>?_;refine WE.con k2.out λw' H3 g3⟨Q2,hq3⟩=>?_;subst Q2;clear k2;have hs3:=F2.fr g3 (λh=>b6 h.symm);have hid3:=hs3.lt;have hql3:=hq3.2;have hN3:=aD hN2 g3.nx;obtain⟨x3,y3⟩:=@tM α _ (ltF cf) d i3 r2.2 n p3.out.2;have k3:=lH hm H3 id gen n d i3 q r2.2 hs3 hq3 b6 hN3 p3.out.1 p3.out.2 hn aa;have C0:=C0.out;generalize Go.Sort.medianAdjacent (ltF cf) d i3 r2.2=r3 at C0 x3 y3 k3;replace C0:=ah C0;replace k3:=ah k3;refine zK tyF ?_;refine zG (qA tyF ox) λK5 U0=>?_;refine WE.con k3.out λw' H4 g4⟨Q2,hq4⟩=>?_;subst Q2;clear k3;have O3:=hs3.fr g4 (λh=>b6 h.symm);have P7:=O3.lt;have hql4:=hq4.2;have hN4:=aD hN3 g4.nx;obtain⟨x4,y4⟩:=@tN α _ (ltF cf) d r1.1 r2.1 r3.1 r3.2 n x1 x2 x3;have k4:=lI hm H4 id gen n d r1.1 r2.1 r3.1 q r3.2 O3 hq4 b6 hN4 x1 x2 x3 hn aa;have C0:=C0.out
    generalize Go.Sort.median (ltF cf) d r1.1 r2.1 r3.1 r3.2=r4 at C0 x4 y4 k4;replace C0:=ah C0;replace k4:=ah k4;refine zK tyF ?_;refine zG (qA tyF oy) λK5 U0=>?_;refine WE.con k4.out λw' H5 g5⟨Q2,hq5⟩=>?_;subst Q2;clear k4;refine zK tyF ?_;apply m1.out;exact⟨r4.1,r4.2,g1.then ((((g2.then g3 λ_ h=>.inr h).then g4 λ_ h=>.inr h).then g5 λ_ h=>.inr h)) (λj h=>by subst h;exact .inl hqH),hq5,aa,C0,zL⟩
   rw[ab h50]at C0;have h50i:¬(50:Int)<=(w:Int):=aa;obtain⟨x4,y4⟩:=@tN α _ (ltF cf) d i1 i2 i3 0 n c1 c2 c3;have k4:=lI hm H1 id gen n d i1 i2 i3 q 0 hs hq b6 hN1 c1 c2 c3 hn aa;generalize Go.Sort.median (ltF cf) d i1 i2 i3 0=r4 at C0 x4 y4 k4;clear E0;replace C0:=ah C0;replace k4:=ah k4;refine zW tyF ?_;refine zG (qA tyF oy) λK5 U0=>?_;refine WE.con k4.out λw' H5 g5⟨Q2,hq5⟩=>?_;subst Q2;clear k4;refine zK tyF ?_;apply m1.out;exact⟨r4.1,r4.2,g1.then g5 (λj h=>by subst h;exact .inl hqH),hq5,aa,C0,zL⟩
  rw[ab h8]at C0;have h8i:¬(8:Int)<=(w:Int):=aa;clear E0;replace C0:=ah C0;refine zW tyF ?_;apply m1.out;exact⟨i2,0,g1,hq,aa,C0,zL⟩
 clear t0 t3 t10 t11 t12 t13 t14 t34 A0 B0 A E0 hs hq hid O8 g1 H1 hN1;rintro A H3 ⟨x,k,g3,hq,hk,hr,t11,t13,A0,B0⟩;obtain⟨q1,q2⟩:=hq;have C0:=hr.out;clear hr;by_cases k0:k=0
 ·rw[ad k0]at C0;have kb:((k:Int)==0)=true:=by rw[k0];rfl
  replace C0:=ah C0;replace k0:=ah k0;refine zW tyF ?_;refine R1.cR λK2 u1 u2 u3 u4=>?_;refine zW tyF ?_;apply u4.out;exact fin _ _ x 1 .increasing qp qp rfl qe g3 C0.out
 rw[ab k0]at C0;have kb:((k:Int)==0)=false:=aW aa;replace k0:=ah k0;by_cases k12:k=12
 ·rw[ad k12]at C0;have kc:((k:Int)==12)=true:=by rw[k12];rfl
  replace C0:=ah C0;replace k12:=ah k12;refine zW tyF ?_;refine R1.cR λK2 u1 u2 u3 u4=>?_;refine zW tyF ?_;apply u4.out;exact fin _ _ x 2 .decreasing qp qp rfl qe g3 C0.out
 rw[ab k12]at C0;have kc:((k:Int)==12)=false:=aW aa;replace C0:=ah C0;replace k12:=ah k12;refine zW tyF ?_;refine R1.cR λK2 u1 u2 u3 u4=>?_;refine zW tyF ?_;apply u4.out;exact fin _ _ x 0 .unknown qp qp rfl qe g3 C0.out
end
end Go.Proofs.YtgepceljhelekaaGreat
end

/- A part of the proof: BkSl5, BkSl6, BkSl7, BkSl8, BkSl9, BkSl10, BkSl11, BkSl12, BkSl13, BkSl14, BkSl15, BkSl16, BkSl17, BkSl18, BkSl19, BkSo1, BkSo2, BkSo5, BkSp1, BkSp3, BkSp4, BkFacts10, BkRp1. No conditions. -/
import Derived.Test.YtgepceljhelekaaGreatPFAh
import Derived.Sort.Defs
import Derived.Sort.Lot0
import Derived.Sort.LotD5
import Derived.KernelRfl
set_option maxRecDepth 100000
set_option maxHeartbeats 64000000
set_option linter.all false
noncomputable section
namespace Go.Proofs.YtgepceljhelekaaGreat
open Go Go.Eng
def DV:ao Tryz.prog 40=true:=by kernel_rfl
def xX:ao Tryz.prog 65=true:=by kernel_rfl
def tY:ao Tryz.prog 68=true:=by kernel_rfl
def qx:ao Tryz.prog 69=true:=by kernel_rfl
abbrev Sp:=Int×List UInt8×Int
def spC(x:Sp):List AC:=[.i .i64 x.1,.o (.str x.2.1),.i .i64 x.2.2]
def okN(m:Int):Bool:=decide (1≤m)&&decide (m≤1099511627776)
def iP(us:List Pr)(i:Nat)(k:Int):Bool:=((i+1:Nat):Int)==(us.length:Int)||decide (k<(us.getD (i+1) ([],0)).2)
def one(b:Bool)(x:Sp):List Sp:=if(b&&okN x.2.2)=true then[x]else[]
def dS(us:List Pr)(cs vs:List Int)(n:Int)(i:Nat):List Sp:=
 one (decide (0<cs.getD i 0)) (1,(us.getD i ([],0)).1,n-vs.getD i 0)++one (iP us i (cs.getD i 0+1)) (2,(us.getD i ([],0)).1,n+vs.getD i 0) ++
 (if i+1=us.length then[]else
  one (cs.getD i 0==0&&decide (0<cs.getD (i+1) 0)&&iP us i (cs.getD (i+1) 0)) (3,(us.getD i ([],0)).1,n-cs.getD (i+1) 0*vs.getD (i+1) 0+cs.getD (i+1) 0*vs.getD i 0) ++
  one (cs.getD (i+1) 0==0&&decide (0<cs.getD i 0)&&iP us (i+1) (cs.getD i 0)) (4,(us.getD (i+1) ([],0)).1,n-cs.getD i 0*vs.getD i 0+cs.getD i 0*vs.getD (i+1) 0))
def slA(S:List Sp)(j:Nat):List AV:=match S[j]? with
 |some x=>[.agg (spC x)]
 |none=>[.any]
def Mw(S:List Sp)(j:Nat):(slA S j).length=1:=by
 unfold slA;split<;>rfl
def Js{S:List Sp}{j:Nat}{x:Sp}(h:S[j]?=some x):slA S j=[.agg (spC x)]:=by
 unfold slA;rw[h]
def pA(H:Hp)(us:List Pr)(cs:List Int)(nm:List UInt8)(u c:AC)(rc il:Nat)(i:Nat)(k:Int)(hu:SlP H u us)(hc:SlI H c cs)(hl:cs.length=us.length)(hi:i<us.length)(hL:us.length≤1000000)(hrc:rc<H.nx)(C4:il<H.nx)(hgc:H.get rc=some (.arr [c] 27 0 0))(M7:H.get il=some (.arr [.o (.str nm),u] 51 0 0)):
  Con E2 68 [.one (.i .i64 (i:Int)),.one (.i .i64 k),.one (.o (.ptr rc 0 0 1)),.one (.o (.ptr il 0 0 2))] H (λ_=>False) λr _=>r=.one (.b (iP us i k)):=by
 refine Con.of rfl λlg=>?_;have hu:SlP ⟨H.t,H.nx,lg⟩ u us:=hu;have hc:SlI ⟨H.t,H.nx,lg⟩ c cs:=hc;have hrc:rc<Hp.nx ⟨H.t,H.nx,lg⟩:=hrc;have C4:il<Hp.nx ⟨H.t,H.nx,lg⟩:=C4;have hgc:Hp.get ⟨H.t,H.nx,lg⟩ rc=some (.arr [c] 27 0 0):=hgc;have M7:Hp.get ⟨H.t,H.nx,lg⟩ il=some (.arr [.o (.str nm),u] 51 0 0):=M7;generalize(⟨H.t,H.nx,lg⟩:Hp)=H at hu hc hrc C4 hgc M7 ⊢
 refine C1.body (E:=E2) (nt:=23) (res:=[.tmp 6]) Tryz.func68 rfl rfl rfl rfl rfl λtm z0=>?_;have h0:=z0 0 _ rfl;have h1:=z0 1 _ rfl;have h2:=z0 2 _ rfl;have h3:=z0 3 _ rfl;clear z0;have fin:∀(e:Bool)(A:aa)(H3:Hp),slot A.tm 6=.one (.b e)->A.dfr=[]->Gr H H3->e=iP us i k->∃w H4,aC E2 [.tmp 6] (.ret,A,H3)=.ok [(w,H4)]∧Gr H H4∧∀_:List Nat,w=.one (.b (iP us i k)):=λe A H3 h1 h2 h3 h4=>⟨_,H3,aj (.b e) (.inr rfl) h2 h1,h3,λ_=>by rw[h4]⟩;generalize G0:iP us i k=r0 at fin;have l1:=hc.len;have l2:=hc.lt;rw[hl]at l1;replace hl:Hd (cs.length=us.length):=hl;have B3:=zC0 i (by omega);unfold iP at G0;cases X3:(((i+1:Nat):Int)==(us.length:Int))with
 |true=>
  refine zW tyF ?_;exact fin (true) _ _ qp qe (Fr.refl _) ((by rw[X3,Bool.true_or]at G0;exact G0))
 |false=>
  have C0:i+1<us.length:=by have:=ne_of_beq_false X3;omega
  obtain⟨id,g,off,cells,rfl,hid,B1,K0⟩:=hu.open (by omega)
  have ey:us[i+1]?=some (us.getD (i+1) ([],0)):=by rw[List.getD_eq_getElem?_getD,zB4 C0];rfl
  have hy:=K0 _ _ ey;have y1:=hy.snd;have y2:=hy.le2;clear K0;refine zW (qA tyF (ixC C0)) ?_;exact fin ((decide (k<(us.getD (i+1) ([],0)).2))) _ _ qp qe (Fr.refl _) ((by rw[X3,Bool.false_or]at G0;exact G0))
def mO{σ:Type}{L:Nat}{S:List Sp}{Dn:Nat->Prop}(B:YB E2 L S.length (slA S) Dn σ)(s:σ)(j:Nat)(H:Hp)(us:List Pr)(nm:List UInt8)(u:AC)(rb il:Nat)(kd:Int)(i:Nat)(m:Int)(hj:B.J j s H)(hu:SlP H u us)(hi:i<us.length)(hL:us.length≤1000000)(hrb:rb<H.nx)(C4:il<H.nx)
  (hgb:H.get rb=some (.arr [.o (.yl L)] 153 0 0)) (M7:H.get il=some (.arr [.o (.str nm),u] 51 0 0)) (hS:okN m=true->S[j]?=some (kd,(us.getD i ([],0)).1,m)):
  Con E2 69 [.one (.i .i64 kd),.one (.i .i64 (i:Int)),.one (.i .i64 m),.one (.o (.ptr rb 0 0 1)),.one (.o (.ptr il 0 0 2))] H (B.fp s) λr H'=>∃b s',r=.one (.b b)∧(b=true->B.J (if okN m=true then j+1 else j) s' H')∧(b=false->B.F s' H')∧∀k,B.fp s' k->B.fp s k∨H.nx≤k:=by
 refine Con.of rfl λlg=>?_;have hj:B.J j s ⟨H.t,H.nx,lg⟩:=B.hJ hj (zA1 _) λ_ _=>rfl;have hu:SlP ⟨H.t,H.nx,lg⟩ u us:=hu;have hrb:rb<(⟨H.t,H.nx,lg⟩:Hp).nx:=hrb;have C4:il<(⟨H.t,H.nx,lg⟩:Hp).nx:=C4;have hgb:(⟨H.t,H.nx,lg⟩:Hp).get rb=some (.arr [.o (.yl L)] 153 0 0):=hgb;have M7:(⟨H.t,H.nx,lg⟩:Hp).get il=some (.arr [.o (.str nm),u] 51 0 0):=M7;have e0:H.nx=(⟨H.t,H.nx,lg⟩:Hp).nx:=rfl;rw[e0];clear e0;generalize(⟨H.t,H.nx,lg⟩:Hp)=H at hj hu hrb C4 hgb M7 ⊢
 generalize R5:(if okN m=true then j+1 else j)=j';refine C1.body (E:=E2) (nt:=28) (res:=[.tmp 8]) Tryz.func69 rfl rfl rfl rfl rfl λtm z0=>?_;have h0:=z0 0 _ rfl;have h1:=z0 1 _ rfl;have h2:=z0 2 _ rfl;have h3:=z0 3 _ rfl;have h4:=z0 4 _ rfl;clear z0;have fin:∀(b:Bool)(A:aa)(H3:Hp)(s':σ),slot A.tm 8=.one (.b b)->A.dfr=[]->Fr (B.fp s) H H3->(b=true->B.J j' s' H3)->(b=false->B.F s' H3)->(∀k,B.fp s' k->B.fp s k∨H.nx≤k) ->
   ∃w H4,aC E2 [.tmp 8] (.ret,A,H3)=.ok [(w,H4)]∧Fr (B.fp s) H H4∧∀lg',∃b s',w=.one (.b b)∧(b=true->B.J j' s' ⟨H4.t,H4.nx,lg'⟩)∧(b=false->B.F s' ⟨H4.t,H4.nx,lg'⟩)∧∀k,B.fp s' k->B.fp s k∨H.nx≤k:=λb A H3 s' h1 h2 h3 h4 h5 h6=>
  ⟨_,H3,aj (.b b) (.inr rfl) h2 h1,h3,λ_=>⟨b,s',rfl,λh=>B.hJ (h4 h) (zA1 _) λ_ _=>rfl,λh=>B.hF (h5 h) (zA1 _) λ_ _=>rfl,h6⟩⟩
 by_cases c0:m<1
 ·have hk:okN m=false:=by unfold okN;rw[decide_eq_false (by omega)];rfl
  rw[hk,zB1 zA8]at R5;subst R5;refine zW tyF ?_;exact fin true _ _ s qp qe (Fr.refl _) (λ_=>hj) (λh=>by cases h) λ_ h=>.inl h
 by_cases c1:1099511627776<m
 ·have hk:okN m=false:=by unfold okN;rw[decide_eq_false (show¬m≤1099511627776 by omega),Bool.and_false]
  rw[hk,zB1 zA8]at R5;subst R5;refine zW tyF ?_;exact fin true _ _ s qp qe (Fr.refl _) (λ_=>hj) (λh=>by cases h) λ_ h=>.inl h
 have hk:okN m=true:=by unfold okN;rw[decide_eq_true (by omega),decide_eq_true (by omega)];rfl
 rw[hk,zB0 rfl]at R5;subst R5;have s7:=hS hk;have C8:j<S.length:=(List.getElem?_eq_some_iff.1 s7).1;have hp:=B.pass j s H C8 hj;rw[Js s7,spC]at hp;obtain⟨id,g,off,cells,rfl,hid,B1,K0⟩:=hu.open (by omega)
 have ey:us[i]?=some (us.getD i ([],0)):=by rw[List.getD_eq_getElem?_getD,zB4 hi];rfl
 have hy:=K0 _ _ ey;have y1:=hy.fst;have y2:=hy.le1;clear K0 hS s7 hk ey;generalize us.getD i ([],0)=y at y1 hp;refine zW tyF ?_;refine zG (qA tyF (ixC hi)) λK hK=>?_;refine WE.YT hp λv H4 hf4⟨b,s3,hv,Z5,m6,z6⟩=>?_;subst hv;refine zK tyF ?_;exact fin b _ _ s3 qp qe hf4 Z5 m6 z6
def drop_one{S R:List Sp}{j:Nat}{x:Sp}(h:S.drop j=one true x++R):(okN x.2.2=true->S[j]?=some x)∧S.drop (if okN x.2.2=true then j+1 else j)=R:=by
 unfold one at h;cases hk:okN x.2.2 with
 |true=>
  rw[hk,Bool.true_and,zB0 rfl]at h;have h0:(S.drop j)[0]?=some x:=by rw[h];rfl
  rw[List.getElem?_drop]at h0;refine⟨λ_=>h0,?_⟩
  rw[zB0 rfl,<-List.drop_drop,h];rfl
 |false=>
  rw[hk,Bool.true_and,zB1 zA8,List.nil_append]at h;exact⟨λh2=>absurd h2 zA8,(zB1 zA8).symm▸h⟩
def eJ{S R:List Sp}{j:Nat}{x:Sp}(h:S.drop j=one false x++R):S.drop j=R:=by
 unfold one at h;rw[Bool.false_and,zB1 zA8,List.nil_append]at h;exact h
def fC(us:List Pr)(cs vs:List Int)(n:Int):List Sp:=(List.range us.length).flatMap (dS us cs vs n)
def Vl(l:List Int)(i:Nat)(h:i<l.length):((l.map (AC.i .i64)).drop i).headD (.b false)=.i .i64 (l.getD i 0):=by
 rw[<-List.map_drop,List.getD_eq_getElem?_getD,List.drop_eq_getElem_cons h,zB4 h];rfl
def dR(nm:List UInt8)(us:List Pr):List Int:=us.map λx=>(oo nm us x.1).1
def JB(us:List Pr)(cs vs:List Int):Prop:=∀i,i<us.length->(0≤cs.getD i 0∧cs.getD i 0≤1099511627776)∧(0≤vs.getD i 0∧vs.getD i 0≤1099511627776) ∧
 (i+1<us.length->(0≤cs.getD (i+1) 0*vs.getD (i+1) 0∧cs.getD (i+1) 0*vs.getD (i+1) 0≤1099511627776)∧(0≤cs.getD (i+1) 0*vs.getD i 0∧cs.getD (i+1) 0*vs.getD i 0≤1125899906842624) ∧
  (0≤cs.getD i 0*vs.getD i 0∧cs.getD i 0*vs.getD i 0≤1099511627776)∧(0≤cs.getD i 0*vs.getD (i+1) 0∧cs.getD i 0*vs.getD (i+1) 0≤1125899906842624))
def Az(H:Hp)(il rn:Nat)(nm:List UInt8)(u:AC)(us:List Pr)(n:Int)(C4:il<H.nx)(M7:H.get il=some (.arr [.o (.str nm),u] 51 0 0))(y8:rn<H.nx)(hgn:H.get rn=some (.arr [.i .i64 n] 3 0 0))(hu:SlP H u us)(L0:aH nm us=0)(M5:1≤n)(X7:n≤1099511627776)
  (cs vs:List Int) (W2:aG us n=cs) (V3:dR nm us=vs) (hSB:JB us cs vs) (S:List Sp) (hS:fC us cs vs n=S):
  ItC E2 65 [(il,0,0,2),(rn,0,0,1)] S.length (slA S) (λk=>k=il∨k=rn∨k∈(AV.one u).ids) H:=by
 intro σ L B s H1 V0 J5 hj;refine Con.of rfl λlg=>?_;have hj:B.J 0 s ⟨H1.t,H1.nx,lg⟩:=B.hJ hj (zA1 _) λ_ _=>rfl;have V0:H.nx≤(⟨H1.t,H1.nx,lg⟩:Hp).nx:=V0;have J5:∀k,k<H.nx->(⟨H1.t,H1.nx,lg⟩:Hp).get k=H.get k:=J5;have e0:H1.nx=(⟨H1.t,H1.nx,lg⟩:Hp).nx:=rfl;rw[e0];clear e0;generalize(⟨H1.t,H1.nx,lg⟩:Hp)=H1 at hj V0 J5 ⊢
 have hgl1:H1.get il=some (.arr [.o (.str nm),u] 51 0 0):=by rw[J5 _ C4];exact M7
 have hgn1:H1.get rn=some (.arr [.i .i64 n] 3 0 0):=by rw[J5 _ y8];exact hgn
 have hil1:il<H1.nx:=zA0 C4 V0;have hrn1:rn<H1.nx:=zA0 y8 V0;have X1:SlP H1 u us:=SlC.dG hu V0 J5;have hfpD:∀k,B.fp s k->k<H1.nx∧¬(k=il∨k=rn∨k∈(AV.one u).ids):=λk hk=>B.hl hj hk;clear M7 hgn J5 hu C4 y8 V0;have hL:=(iA L0).1;have hck':=L0;have T6:fB nm us n=(cs,0):=by unfold fB;rw[zB1 (λh=>h L0),zB0 ⟨by omega,X7⟩,W2]
 have J1:cs.length=us.length:=by rw[<-W2];exact iR us n
 have I1:vs.length=us.length:=by rw[<-V3];unfold dR;exact List.length_map _
 refine C1.body (E:=E2) (nt:=180) (res:=[]) Tryz.func65 rfl rfl rfl rfl rfl λtm z0=>?_;have h0:=z0 0 _ rfl;have h1:=z0 1 _ rfl;have h2:=z0 2 _ rfl;clear z0;refine zG tyF λK hK=>?_;refine hK.out _ _ ?_;refine R1.gen (λA2 H2=>Gr H1 H2∧H1.nx<H2.nx∧H2.get H1.nx=some (.arr [.o (.yl L)] 153 0 0)∧slot A2.tm 1=.one ((.o (.ptr il 0 0 2)))∧slot A2.tm 2=.one ((.o (.ptr rn 0 0 1)))∧slot A2.tm 3=.one ((.o (.ptr H1.nx 0 0 1)))∧A2.nt=180∧A2.dfr=[]) ⟨(Fr.refl _).new _,zA6 _,aB rfl,zL⟩ ?_;clear h0 h1 h2 tm hK K;rintro A2 H2 ⟨g2,mb,rb,t1,t2,t3,A0,B0⟩;obtain⟨qb,hqb⟩:∃q,q=H1.nx:=⟨_,rfl⟩
 rw[<-hqb]at mb rb t3;replace hqb:Hd (qb=H1.nx):=hqb;have rl:=(g2.get _ hil1 zB2).trans hgl1;have ml:=zA0 hil1 g2.nx;have rn2:=(g2.get _ hrn1 zB2).trans hgn1;have mn:=zA0 hrn1 g2.nx;refine zG (qA tyF Te) λK hK=>?_;refine WE.con (IM H2 nm u us n (X1.gr g2)) λw H3 g3⟨c,hq,hc,hcf⟩=>?_;rw[T6]at hq hc;subst hq;have rb:=(g3.get _ mb zB2).trans rb;have mb:=zA0 mb g3.nx;have rl:=(g3.get _ ml zB2).trans rl;have ml:=zA0 ml g3.nx;have rn2:=(g3.get _ mn zB2).trans rn2;have mn:=zA0 mn g3.nx;have g3:=g2.gr g3;refine zS tyF ?_;refine hK.out _ _ ?_;refine R1.gen (λA4 H4=>Gr H1 H4∧Gr H3 H4∧H3.nx<H4.nx∧H4.get H3.nx=some (.arr [c] 27 0 0)∧slot A4.tm 1=.one ((.o (.ptr il 0 0 2)))∧slot A4.tm 2=.one ((.o (.ptr rn 0 0 1)))∧slot A4.tm 3=.one ((.o (.ptr qb 0 0 1)))∧slot A4.tm 4=.one ((.o (.ptr H3.nx 0 0 1)))∧A4.nt=180∧A4.dfr=[])
  ⟨(g3.new _).mod _ (.inl g3.nx),((Fr.refl _).new _).mod _ (.inl (zA1 _)),zA6 _,an rfl,zL⟩ ?_
 clear t1 t2 t3 A0 B0 A2 hK K;rintro A H4 ⟨g4,g34,mc,rc,t1,t2,t3,t4,A0,B0⟩;have rb:=(g34.get _ mb zB2).trans rb;have mb:=zA0 mb g34.nx;have rl:=(g34.get _ ml zB2).trans rl;have ml:=zA0 ml g34.nx;have rn2:=(g34.get _ mn zB2).trans rn2;have mn:=zA0 mn g34.nx;have hqv1:qb<H4.nx∧H3.nx<H4.nx∧il<H4.nx∧rn<H4.nx∧H1.nx≤H4.nx:=⟨mb,mc,ml,mn,g4.nx⟩;have hc4:=hc.gr g34;have hqc:H1.nx≤H3.nx:=g3.nx;obtain⟨qc,hqc'⟩:∃q,q=H3.nx:=⟨_,rfl⟩
 rw[<-hqc']at mc rc t4 hqc hqv1;have hcf1:∀k∈(AV.one c).ids,H1.nx≤k:=λk hk=>zA2 g2.nx (hcf k hk);clear hqc' g3 g34 hc hcf;obtain⟨z,hz,q8⟩:∃z,ay Tryz.prog 3=some z∧(ofValue z).cells=[.i .i64 0]:=⟨.int .i64 0,BJ,rfl⟩
 have mk:∀H,cL Tryz.prog H 27 (.one (.i .i64 (cs.length:Int))) (.one (.i .i64 (cs.length:Int)))=.val (.one (.o (.sl H.nx 0 0 cs.length 1))) (H.new (.arr ((List.replicate cs.length (0:Int)).map (AC.i .i64)) 3 0 0)):=λH=>by
  rw[oW er sB hz (by rw[q8];rfl) (by omega),q8,uv,List.map_replicate]
 clear hz q8;have l1:=hc4.len;have l2:=hc4.lt;rw[J1]at l1 mk;replace J1:Hd (cs.length=us.length):=J1;replace I1:Hd (vs.length=us.length):=I1;replace W2:Hd (aG us n=cs):=W2;replace T6:Hd (fB nm us n=(cs,0)):=T6;replace V3:Hd (dR nm us=vs):=V3;replace L0:Hd (aH nm us=0):=L0;clear hck';replace hS:Hd (fC us cs vs n=S):=hS;refine zG (qA tyF mk) λK hK=>?_;refine hK.out _ _ ?_;refine R1.gen (λA5 H5=>Gr H1 H5∧Gr H4 H5∧H4.nx<H5.nx∧H5.get H4.nx=some (.arr ((List.replicate us.length (0:Int)).map (AC.i .i64)) 3 0 0)∧slot A5.tm 1=.one ((.o (.ptr il 0 0 2)))∧slot A5.tm 2=.one ((.o (.ptr rn 0 0 1)))∧slot A5.tm 3=.one ((.o (.ptr qb 0 0 1)))∧slot A5.tm 4=.one ((.o (.ptr qc 0 0 1)))∧slot A5.tm 6=.one ((.o (.sl H4.nx 0 0 us.length 1)))∧A5.nt=180∧A5.dfr=[])
  ⟨g4.new _,(Fr.refl _).new _,zA6 _,aB rfl,zL⟩ ?_
 clear t1 t2 t3 t4 A0 B0 A hK K mk l1 l2;rintro A H5 ⟨g5,g45,mv,rv,t1,t2,t3,t4,t6,A0,B0⟩;have rb:=(g45.get _ mb zB2).trans rb;have mb:=zA0 mb g45.nx;have rl:=(g45.get _ ml zB2).trans rl;have ml:=zA0 ml g45.nx;have rn2:=(g45.get _ mn zB2).trans rn2;have mn:=zA0 mn g45.nx;have rc:=(g45.get _ mc zB2).trans rc;have mc:=zA0 mc g45.nx;have hc5:=hc4.gr g45;have o_:∀k∈(AV.one c).ids,k<H4.nx:=hc4.lt;obtain⟨qv,hqv⟩:∃q,q=H4.nx:=⟨_,rfl⟩
 rw[<-hqv]at mv rv t6 o_ hqv1;clear hqv g45 hc4 g4;have W4:=X1.gr g5;have l1:=W4.len;have l2:=W4.lt;refine zW tyF ?_;obtain⟨hqb1,hqc1,hqi1,hqn1,hq1⟩:=hqv1
 have RF:∀H6,Fr (λk=>k=qv) H5 H6->(H6.get qb=some (.arr [.o (.yl L)] 153 0 0)∧qb<H6.nx)∧(H6.get il=some (.arr [.o (.str nm),u] 51 0 0)∧il<H6.nx)∧(H6.get rn=some (.arr [.i .i64 n] 3 0 0)∧rn<H6.nx)∧(H6.get qc=some (.arr [c] 27 0 0)∧qc<H6.nx)∧qv<H6.nx:=λH6 f=>
  ⟨⟨(f.get _ mb (by omega)).trans rb,zA0 mb f.nx⟩,⟨(f.get _ ml (by omega)).trans rl,zA0 ml f.nx⟩,⟨(f.get _ mn (by omega)).trans rn2,zA0 mn f.nx⟩,⟨(f.get _ mc (by omega)).trans rc,zA0 mc f.nx⟩,zA0 mv f.nx⟩
 have hcne:∀k∈(AV.one c).ids,¬k=qv:=λk hk e=>by have:=o_ k hk;omega
 refine R1.fb λK k1 k2 k3 k4=>?_;refine R1.loop (λm A H6=>∃i:Nat,m=us.length-i∧i≤us.length∧Gr H1 H6∧Fr (λk=>k=qv) H5 H6∧H6.get qv=some (.arr ((vs.take i++List.replicate (us.length-i) (0:Int)).map (AC.i .i64)) 3 0 0) ∧
   slot A.tm 1=.one ((.o (.ptr il 0 0 2)))∧slot A.tm 2=.one ((.o (.ptr rn 0 0 1)))∧slot A.tm 3=.one ((.o (.ptr qb 0 0 1)))∧slot A.tm 4=.one ((.o (.ptr qc 0 0 1)))∧slot A.tm 6=.one ((.o (.sl qv 0 0 us.length 1)))∧slot A.tm 24=.one (u)∧slot A.tm 25=.one (.i .i64 (us.length:Int))∧slot A.tm 26=.one (.i .i64 (i:Int))∧A.nt=180∧A.dfr=[]) ?_ us.length
  ⟨0,rfl,Nat.zero_le _,g5,Fr.refl _,rv,zL⟩
 clear t1 t2 t3 t4 t6 A0 B0 A rb rl rn2 rc rv k3 l1 l2 W4;rintro m A H6 ⟨i,rfl,hi,g6,f6,rv,t1,t2,t3,t4,t6,t24,t25,t26,A0,B0⟩;refine zW tyF ?_;refine zI tyF (λhc=>?_) (λhc=>?_)
 ·have C0:i<us.length:=by omega
  have ex:us[i]?=some us[i]:=zB4 C0;have N0:us.drop i=us[i]::us.drop (i+1):=List.drop_eq_getElem_cons C0;have I2:us.take (i+1)=us.take i++[us[i]]:=List.take_succ_eq_append_getElem C0;have E0:us[i]∈us:=List.getElem_mem C0;generalize us[i]=x at ex N0 I2 E0;have B3:=zC0 i (by omega);obtain⟨id,g,off,cells,rfl,hid,B1,K0⟩:=(X1.gr g6).open (by omega)
  have hy:=K0 _ _ ex;have y1:=hy.all;have y2:=hy.le;have hvx:vs.take (i+1)=vs.take i++[(oo nm us x.1).1]:=by
   have e:vs[i]?=some (oo nm us x.1).1:=by rw[<-V3.out];unfold dR;rw[List.getElem?_map,ex];rfl
   obtain⟨h1,h2⟩:=List.getElem?_eq_some_iff.1 e
   rw[List.take_succ_eq_append_getElem h1,h2]
  clear K0 hy N0 I2;refine zW tyF ?_;refine R1.fb λK2 q1 q2 q3 q4=>?_;refine zG (zDd tyF (ixC C0) dW) λK3 P6=>?_;refine P6.out _ _ ?_;refine R1.gen (λA7 H7=>Gr H1 H7∧Gr H6 H7∧H6.nx<H7.nx∧H7.get H6.nx=some (.arr [.o (.str x.1),.i .i64 x.2] 133 0 0)∧slot A7.tm 1=.one ((.o (.ptr il 0 0 2)))∧slot A7.tm 2=.one ((.o (.ptr rn 0 0 1)))∧slot A7.tm 3=.one ((.o (.ptr qb 0 0 1)))∧slot A7.tm 4=.one ((.o (.ptr qc 0 0 1)))∧slot A7.tm 6=.one ((.o (.sl qv 0 0 us.length 1)))∧slot A7.tm 7=.one (.i .i64 (i:Int))∧slot A7.tm 8=.one ((.o (.ptr H6.nx 0 0 2)))∧slot A7.tm 24=.one ((.o (.sl id g off us.length 2)))∧slot A7.tm 25=.one (.i .i64 (us.length:Int))∧slot A7.tm 26=.one (.i .i64 (i:Int))∧A7.nt=180∧A7.dfr=[])
   ⟨(g6.new _).mod _ (.inl g6.nx),((Fr.refl _).new _).mod _ (.inl (zA1 _)),zA6 _,an rfl,zL⟩ ?_
  clear t1 t2 t3 t4 t6 t24 t25 t26 A0 B0 A y1 y2 B1 hid P6 K3;rintro A H7 ⟨g7,g67,m8,r8,t1,t2,t3,t4,t6,t7,t8,t24,t25,t26,A0,B0⟩;have f7:Fr (λk=>k=qv) H5 H7:=f6.gr g67;have rv7:=(g67.get _ (RF H6 f6).2.2.2.2 zB2).trans rv;refine zG (zDd tyF (RF H7 f7) QY) λK3 P6=>?_;refine WE.con (OR H7 nm _ us x.1 (X1.gr g7)) λw H8 g8 hq=>?_;subst hq;have f8:Fr (λk=>k=qv) H5 H8:=f7.gr g8;have rv8:=(g8.get _ (RF H7 f7).2.2.2.2 zB2).trans rv7;have g78:=g7.gr g8;clear rv rv7 r8 m8;have hlen:(vs.take i).length=i:=by have:=I1.out;rw[List.length_take];omega
  have hle:i+1≤((vs.take i++List.replicate (us.length-i) (0:Int)).map (AC.i .i64)).length:=by rw[List.length_map,List.length_append,List.length_replicate,hlen];omega
  have z5:List.take i ((vs.take i++List.replicate (us.length-i) (0:Int)).map (AC.i .i64))++AC.i .i64 (oo nm us x.1).1::List.drop (i+1) ((vs.take i++List.replicate (us.length-i) (0:Int)).map (AC.i .i64))=(vs.take (i+1)++List.replicate (us.length-(i+1)) 0).map (AC.i .i64):=by
   rw[setRow (AC.i .i64) _ _ _ (by rw[List.length_append,List.length_replicate,hlen];omega)];have e:us.length-i=(us.length-(i+1))+1:=by omega
   rw[e];have e2:=Qh (vs.take i) 0 (oo nm us x.1).1 (us.length-(i+1));rw[hlen]at e2;rw[e2,hvx]
  replace hlen:Hd ((vs.take i).length=i):=hlen;clear hvx;generalize(oo nm us x.1).1=vx at z5
  generalize(oo nm us x.1).2=ve
  refine zS (zDg tyF (RF H8 f8) (ixC C0) z5 Nat.mul_one hle) ?_;refine P6.out _ _ ?_;refine q1.out _ _ ?_;refine zW tyF ?_;exact⟨us.length-(i+1),by omega,i+1,rfl,C0,g78.mod _ (.inl (by omega)),f8.mod _ (.inr rfl),an rfl,zL⟩
 have S1:i=us.length:=by omega
 refine zW tyF ?_;refine k2.out _ _ ?_;clear k1 k2 k4;have hvl2:vs.take us.length=vs:=by rw[<-I1.out,List.take_length]
 rw[S1,Nat.sub_self,List.replicate_zero,List.append_nil,hvl2]at rv;replace S1:Hd (i=us.length):=S1;clear t26 t24 t25 hvl2;have hc6:SlI H6 c cs:=SlC.fr hc5 f6 hcne;have l1:=hc6.len;have l2:=hc6.lt;rw[J1.out]at l1;refine zW (qA tyF (RF H6 f6)) ?_;have hlp:0<us.length:=by obtain⟨x0,l0,e0,_⟩:=eB L0.out;rw[e0];exact Nat.succ_pos _
 obtain⟨idc,gc,offc,cellsc,hce,hidc,hgc,hatc⟩:=hc6.open (by have:=J1.out;omega)
 rw[J1.out]at hce;subst hce;have ec:∀j,j<us.length->(cellsc.drop (offc+j)).headD (.b false)=.i .i64 (cs.getD j 0)∧offc+j+1≤cellsc.length:=λj hj=>by
  have e:cs[j]?=some (cs.getD j 0):=by have:=J1.out;rw[List.getD_eq_getElem?_getD,zB4 (by omega)];rfl
  have h:=hatc j _ e;rwa [Nat.mul_one]at h
 have evv:∀j,j<us.length->((vs.map (AC.i .i64)).drop j).headD (.b false)=.i .i64 (vs.getD j 0)∧j+1≤(vs.map (AC.i .i64)).length:=λj hj=>by
  have:=I1.out;exact⟨Vl vs j (by omega),by rw[List.length_map];omega⟩
 have hnD:∀k,(H1.nx≤k∨(k=il∨k=rn∨k∈(AV.one u).ids))->¬B.fp s k:=λk h hf=>by
  have h2:=hfpD k hf;rcases h with h|h
  ·omega
  exact h2.2 h
 have hqbn:¬B.fp s qb:=hnD _ (.inl (by have:=hqb.out;omega));have hidf:¬B.fp s idc:=hnD _ (.inl (hcf1 idc (List.mem_singleton.2 rfl)));have S6:∀k∈(AV.one u).ids,¬B.fp s k:=λk hk=>hnD k (.inr (.inr (.inr hk)));have hcn:∀k∈(AV.one (.o (.sl idc gc offc us.length 1))).ids,¬B.fp s k:=λk hk=>by rw[List.mem_singleton.1 hk];exact hidf
 have A6:=X1.gr g6;have RG:∀H7,Fr (B.fp s) H6 H7->(H7.get qb=some (.arr [.o (.yl L)] 153 0 0)∧qb<H7.nx)∧(H7.get il=some (.arr [.o (.str nm),u] 51 0 0)∧il<H7.nx)∧(H7.get rn=some (.arr [.i .i64 n] 3 0 0)∧rn<H7.nx)∧(H7.get qc=some (.arr [.o (.sl idc gc offc us.length 1)] 27 0 0)∧qc<H7.nx)∧(H7.get qv=some (.arr (vs.map (AC.i .i64)) 3 0 0)∧qv<H7.nx)∧(rowOf (H7.get idc) gc=some cellsc∧idc<H7.nx):=λH7 f=>by
  obtain⟨⟨a1,a2⟩,⟨b1,b2⟩,⟨c1,c2⟩,⟨d1,d2⟩,e2⟩:=RF H6 f6
  exact⟨⟨(f.get _ a2 hqbn).trans a1,zA0 a2 f.nx⟩,⟨(f.get _ b2 (hnD _ (.inr (.inl rfl)))).trans b1,zA0 b2 f.nx⟩,⟨(f.get _ c2 (hnD _ (.inr (.inr (.inl rfl))))).trans c1,zA0 c2 f.nx⟩,⟨(f.get _ d2 (hnD _ (.inl hqc))).trans d1,zA0 d2 f.nx⟩,⟨(f.get _ e2 (hnD _ (.inl hq1))).trans rv,zA0 e2 f.nx⟩,⟨by rw[f.get _ hidc hidf];exact hgc,zA0 hidc f.nx⟩⟩
 have hcS:∀H7,Fr (B.fp s) H6 H7->SlI H7 (.o (.sl idc gc offc us.length 1)) cs:=λH7 f=>SlC.fr hc6 f hcn;have E_:∀H7,Fr (B.fp s) H6 H7->SlP H7 u us:=λH7 f=>SlC.fr A6 f S6;have hj6:B.J 0 s H6:=B.hJ hj g6.nx λk hk=>g6.get k hk zB2;have fin:∀(e:ak),e=.normal∨e=.ret->∀s3 H3 A3,B.J S.length s3 H3∨B.F s3 H3->Fr (B.fp s) H6 H3->(∀k,B.fp s3 k->B.fp s k∨H6.nx≤k)->A3.dfr=[]->∃v H4,aC E2 [] (e,A3,H3)=.ok [(v,H4)]∧Fr (B.fp s) H1 H4∧∀lg',∃s',(B.J S.length s' ⟨H4.t,H4.nx,lg'⟩∨B.F s' ⟨H4.t,H4.nx,lg'⟩)∧∀k,B.fp s' k->B.fp s k∨H1.nx≤k:=λe he s3 H3 A3 hjf hf Y5 hd=>
  ⟨_,H3,bX he hd,g6.none.then hf λk hk=>.inr hk,λlg'=>⟨s3,hjf.imp (λh=>B.hJ (H:=H3) h (zA1 _) λ_ _=>rfl) (λh=>B.hF (H:=H3) h (zA1 _) λ_ _=>rfl),λk hk=>(Y5 k hk).imp id λh=>zA2 g6.nx h⟩⟩
 have hS0:S.drop 0=((List.range us.length).drop 0).flatMap (dS us cs vs n):=by rw[List.drop_zero,List.drop_zero];exact hS.out.symm
 have n16:=g6.nx;replace hS0:Hd _:=hS0;clear RF hcne hc6 hc5 A6 rv hatc hgc hj l1 l2 X1 g5 mb ml mn mc mv o_ hcf1 hlp;refine R1.og λK k1 k2 k3 k4=>?_;refine R1.loop (λm A H7=>∃(i j:Nat)(s2:σ),m=us.length-i∧i≤us.length∧j≤S.length∧B.J j s2 H7∧Fr (B.fp s) H6 H7∧(∀k,B.fp s2 k->B.fp s k∨H6.nx≤k)∧Hd (S.drop j=((List.range us.length).drop i).flatMap (dS us cs vs n))∧slot A.tm 2=.one ((.o (.ptr rn 0 0 1)))∧slot A.tm 4=.one ((.o (.ptr qc 0 0 1)))∧slot A.tm 6=.one ((.o (.sl qv 0 0 us.length 1)))∧slot A.tm 9=.one ((.o (.clo 68 [(qc,0,0,1),(il,0,0,2)])))∧slot A.tm 10=.one ((.o (.clo 69 [(qb,0,0,1),(il,0,0,2)])))∧slot A.tm 45=.one (.i .i64 (us.length:Int))∧slot A.tm 46=.one (.i .i64 (i:Int))∧A.nt=180∧A.dfr=[]) ?_ us.length
  ⟨0,0,s,rfl,Nat.zero_le _,Nat.zero_le _,hj6,Fr.refl _,λ_ h=>.inl h,hS0,zL⟩
 clear t1 t2 t3 t4 t6 A0 B0 A hj6 hS0;rintro m A H7 ⟨i,j,s2,rfl,hi,hjS,hj7,f7,Y5,s7,t2,t4,t6,t9,t10,t45,t46,A0,B0⟩;refine zW tyF ?_;refine zI tyF (λhc=>?_) (λhc=>?_)
 ·have C0:i<us.length:=by omega
  have B3:=zC0 i (by omega);have m9:((List.range us.length).drop i).flatMap (dS us cs vs n)=dS us cs vs n i++((List.range us.length).drop (i+1)).flatMap (dS us cs vs n):=by
   rw[List.drop_eq_getElem_cons (by rw[List.length_range];exact C0),List.getElem_range,List.flatMap_cons]
  replace s7:=s7.out;rw[m9]at s7;obtain⟨⟨c0,c1⟩,⟨v0,v1⟩,hmore⟩:=hSB i C0
  obtain⟨ec1,ec2⟩:=ec i C0
  obtain⟨ev1,ev2⟩:=evv i C0
  generalize hR:((List.range us.length).drop (i+1)).flatMap (dS us cs vs n)=R at s7;replace hR:Hd (((List.range us.length).drop (i+1)).flatMap (dS us cs vs n)=R):=hR;clear m9;have w1:IntKind.i64.wrap (n-vs.getD i 0)=n-vs.getD i 0:=aP (by omega) (by omega);have w2:IntKind.i64.wrap (n+vs.getD i 0)=n+vs.getD i 0:=aP (by omega) (by omega);have w3:IntKind.i64.wrap (cs.getD i 0+1)=cs.getD i 0+1:=aP (by omega) (by omega);refine zW tyF ?_;refine R1.fb λK2 q1 q2 q3 q4=>?_;refine zW tyF ?_;have next:∀(s4:σ)(j4:Nat)(A8:aa)(H8:Hp),j4≤S.length->B.J j4 s4 H8->Fr (B.fp s) H6 H8->(∀k,B.fp s4 k->B.fp s k∨H6.nx≤k)->S.drop j4=R->slot A8.tm 2=.one ((.o (.ptr rn 0 0 1)))∧slot A8.tm 4=.one ((.o (.ptr qc 0 0 1)))∧slot A8.tm 6=.one ((.o (.sl qv 0 0 us.length 1)))∧slot A8.tm 9=.one ((.o (.clo 68 [(qc,0,0,1),(il,0,0,2)])))∧slot A8.tm 10=.one ((.o (.clo 69 [(qb,0,0,1),(il,0,0,2)])))∧slot A8.tm 45=.one (.i .i64 (us.length:Int))∧slot A8.tm 46=.one (.i .i64 (i:Int))∧A8.nt=180∧A8.dfr=[]->K2 .normal A8 H8∧K2 (.exit 3) A8 H8:=by
   clear t2 t4 t6 t9 t10 t45 t46 A0 B0 A;rintro s4 j4 A H8 J4 G9 f8 W3 S4 ⟨t2,t4,t6,t9,t10,t45,t46,A0,B0⟩;replace S4:Hd (S.drop j4=((List.range us.length).drop (i+1)).flatMap (dS us cs vs n)):=S4.trans hR.out.symm;refine⟨q1.out _ _ ?_,q2.out _ _ ?_⟩
   ·refine zW tyF ?_;exact⟨us.length-(i+1),by omega,i+1,j4,s4,rfl,C0,J4,G9,f8,W3,S4,zL⟩
   refine zW tyF ?_;exact⟨us.length-(i+1),by omega,i+1,j4,s4,rfl,C0,J4,G9,f8,W3,S4,zL⟩
  have stop:∀(s4:σ)(A8:aa)(H8:Hp),B.F s4 H8->Fr (B.fp s) H6 H8->(∀k,B.fp s4 k->B.fp s k∨H6.nx≤k)->A8.dfr=[]->K2 .ret A8 H8:=λs4 A8 H8 h1 h2 h3 h4=>q4.out _ _ (k4.out _ _ (fin .ret (.inr rfl) s4 H8 A8 (.inr h1) h2 h3 h4));replace next:Hd (∀(s4:σ)(j4:Nat)(A8:aa)(H8:Hp),j4≤S.length->B.J j4 s4 H8->Fr (B.fp s) H6 H8->(∀k,B.fp s4 k->B.fp s k∨H6.nx≤k)->S.drop j4=R->slot A8.tm 2=.one ((.o (.ptr rn 0 0 1)))∧slot A8.tm 4=.one ((.o (.ptr qc 0 0 1)))∧slot A8.tm 6=.one ((.o (.sl qv 0 0 us.length 1)))∧slot A8.tm 9=.one ((.o (.clo 68 [(qc,0,0,1),(il,0,0,2)])))∧slot A8.tm 10=.one ((.o (.clo 69 [(qb,0,0,1),(il,0,0,2)])))∧slot A8.tm 45=.one (.i .i64 (us.length:Int))∧slot A8.tm 46=.one (.i .i64 (i:Int))∧A8.nt=180∧A8.dfr=[]->K2 .normal A8 H8∧K2 (.exit 3) A8 H8):=next;replace stop:Hd (∀(s4:σ)(A8:aa)(H8:Hp),B.F s4 H8->Fr (B.fp s) H6 H8->(∀k,B.fp s4 k->B.fp s k∨H6.nx≤k)->A8.dfr=[]->K2 .ret A8 H8):=stop;unfold dS at s7;rw[List.append_assoc,List.append_assoc]at s7;generalize hT:(if i+1=us.length then([]:List Sp)else _)++R=T at s7;repeat refine R1.aF ?_
  refine R1.s_h (by kernel_rfl) λK3 P6=>?_;have rest:Hd (∀(s4:σ)(j4:Nat)(A8:aa)(H8:Hp),j4≤S.length->B.J j4 s4 H8->Fr (B.fp s) H6 H8->(∀k,B.fp s4 k->B.fp s k∨H6.nx≤k)->S.drop j4=T->(slot A8.tm 11=.one (.i .i64 (i:Int)))∧(slot A8.tm 87=.one (.b false))∧(slot A8.tm 2=.one ((.o (.ptr rn 0 0 1)))∧slot A8.tm 4=.one ((.o (.ptr qc 0 0 1)))∧slot A8.tm 6=.one ((.o (.sl qv 0 0 us.length 1)))∧slot A8.tm 9=.one ((.o (.clo 68 [(qc,0,0,1),(il,0,0,2)])))∧slot A8.tm 10=.one ((.o (.clo 69 [(qb,0,0,1),(il,0,0,2)])))∧slot A8.tm 45=.one (.i .i64 (us.length:Int))∧slot A8.tm 46=.one (.i .i64 (i:Int))∧A8.nt=180∧A8.dfr=[])->K3 A8 H8):=by
   clear t2 t4 t6 t9 t10 t45 t46 A0 B0 A s7;rintro s4 j4 A H8 J4 G9 f8 W3 S4 ⟨t11,t87,t2,t4,t6,t9,t10,t45,t46,A0,B0⟩;refine P6.out _ _ ?_;clear P6 K3;by_cases V1:i+1=us.length
   ·have ce:(((i+1:Nat):Int)==(us.length:Int))=true:=by rw[V1];exact beq_self_eq_true _
    rw[zB0 V1,List.nil_append]at hT;replace V1:Hd _:=V1;refine zW (qA tyF (RG H8 f8)) ?_;exact(next.out s4 j4 _ _ J4 G9 f8 W3 (S4.trans hT.symm) zL).2
   have ce:(((i+1:Nat):Int)==(us.length:Int))=false:=zB5 (by omega);have D2:i+1<us.length:=by omega
   rw[zB1 V1,List.append_assoc]at hT;rw[<-hT]at S4;clear hT;obtain⟨⟨p1,p2⟩,⟨p3,p4⟩,⟨p5,p6⟩,⟨p7,p8⟩⟩:=hmore D2
   obtain⟨⟨c2,c3⟩,⟨v2,v3⟩,_⟩:=hSB (i+1) D2
   obtain⟨ec3,ec4⟩:=ec (i+1) D2
   obtain⟨ev3,ev4⟩:=evv (i+1) D2
   have f_:IntKind.i64.wrap (((i+1:Nat):Int)+1)=((i+1+1:Nat):Int):=by rw[aP (by omega) (by omega)];omega
   have x1:IntKind.i64.wrap (cs.getD (i+1) 0*vs.getD (i+1) 0)=cs.getD (i+1) 0*vs.getD (i+1) 0:=aP (by omega) (by omega);have x2:IntKind.i64.wrap (cs.getD (i+1) 0*vs.getD i 0)=cs.getD (i+1) 0*vs.getD i 0:=aP (by omega) (by omega);have x3:IntKind.i64.wrap (n-cs.getD (i+1) 0*vs.getD (i+1) 0)=n-cs.getD (i+1) 0*vs.getD (i+1) 0:=aP (by omega) (by omega);have x4:IntKind.i64.wrap (n-cs.getD (i+1) 0*vs.getD (i+1) 0+cs.getD (i+1) 0*vs.getD i 0)=n-cs.getD (i+1) 0*vs.getD (i+1) 0+cs.getD (i+1) 0*vs.getD i 0:=aP (by omega) (by omega);have x5:IntKind.i64.wrap (cs.getD i 0*vs.getD i 0)=cs.getD i 0*vs.getD i 0:=aP (by omega) (by omega);have x6:IntKind.i64.wrap (cs.getD i 0*vs.getD (i+1) 0)=cs.getD i 0*vs.getD (i+1) 0:=aP (by omega) (by omega);have x7:IntKind.i64.wrap (n-cs.getD i 0*vs.getD i 0)=n-cs.getD i 0*vs.getD i 0:=aP (by omega) (by omega);have x8:IntKind.i64.wrap (n-cs.getD i 0*vs.getD i 0+cs.getD i 0*vs.getD (i+1) 0)=n-cs.getD i 0*vs.getD i 0+cs.getD i 0*vs.getD (i+1) 0:=aP (by omega) (by omega);refine zW (zDf tyF (RG H8 f8) (ixC C0) (ixC D2) Nat.mul_one) ?_;generalize hT2:one (cs.getD (i+1) 0==0&&decide (0<cs.getD i 0)&&iP us (i+1) (cs.getD i 0)) (4,(us.getD (i+1) ([],0)).1,n-cs.getD i 0*vs.getD i 0+cs.getD i 0*vs.getD (i+1) 0)++R=T2 at S4;repeat refine R1.aF ?_
   refine R1.s_h (by kernel_rfl) λK3 P6=>?_;have rest:Hd (∀(s4:σ)(j4:Nat)(A8:aa)(H8:Hp),j4≤S.length->B.J j4 s4 H8->Fr (B.fp s) H6 H8->(∀k,B.fp s4 k->B.fp s k∨H6.nx≤k)->S.drop j4=T2->(slot A8.tm 134=.one (.b false))∧(slot A8.tm 2=.one ((.o (.ptr rn 0 0 1)))∧slot A8.tm 4=.one ((.o (.ptr qc 0 0 1)))∧slot A8.tm 6=.one ((.o (.sl qv 0 0 us.length 1)))∧slot A8.tm 9=.one ((.o (.clo 68 [(qc,0,0,1),(il,0,0,2)])))∧slot A8.tm 10=.one ((.o (.clo 69 [(qb,0,0,1),(il,0,0,2)])))∧slot A8.tm 45=.one (.i .i64 (us.length:Int))∧slot A8.tm 46=.one (.i .i64 (i:Int))∧slot A8.tm 11=.one (.i .i64 (i:Int))∧A8.nt=180∧A8.dfr=[])->K3 A8 H8):=by
    clear t2 t4 t6 t9 t10 t11 t45 t46 t87 A0 B0 S4 G9 J4 W3 f8 A H8 s4 j4;rintro s4 j4 A H8 J4 G9 f8 W3 S4 ⟨t134,t2,t4,t6,t9,t10,t45,t46,t11,A0,B0⟩;refine P6.out _ _ ?_;clear P6 K3;refine zW (zDf tyF (RG H8 f8) (ixC C0) (ixC D2) Nat.mul_one) ?_;rw[<-hT2]at S4;repeat refine R1.aF ?_
    refine R1.s_h (by kernel_rfl) λK3 P6=>?_;have rest:Hd (∀(s4:σ)(j4:Nat)(A8:aa)(H8:Hp),j4≤S.length->B.J j4 s4 H8->Fr (B.fp s) H6 H8->(∀k,B.fp s4 k->B.fp s k∨H6.nx≤k)->S.drop j4=R->(slot A8.tm 178=.one (.b false))∧(slot A8.tm 2=.one ((.o (.ptr rn 0 0 1)))∧slot A8.tm 4=.one ((.o (.ptr qc 0 0 1)))∧slot A8.tm 6=.one ((.o (.sl qv 0 0 us.length 1)))∧slot A8.tm 9=.one ((.o (.clo 68 [(qc,0,0,1),(il,0,0,2)])))∧slot A8.tm 10=.one ((.o (.clo 69 [(qb,0,0,1),(il,0,0,2)])))∧slot A8.tm 45=.one (.i .i64 (us.length:Int))∧slot A8.tm 46=.one (.i .i64 (i:Int))∧slot A8.tm 11=.one (.i .i64 (i:Int))∧A8.nt=180∧A8.dfr=[])->K3 A8 H8):=by
     clear t2 t4 t6 t9 t10 t11 t45 t46 t134 A0 B0 S4 G9 J4 W3 f8 A H8 s4 j4;rintro s4 j4 A H8 J4 G9 f8 W3 S4 ⟨t178,t2,t4,t6,t9,t10,t45,t46,t11,A0,B0⟩;refine P6.out _ _ ?_;refine zW tyF ?_;exact(next.out s4 j4 _ _ J4 G9 f8 W3 S4 zL).1
    have bad:Hd (∀(s4:σ)(A8:aa)(H8:Hp),B.F s4 H8->Fr (B.fp s) H6 H8->(∀k,B.fp s4 k->B.fp s k∨H6.nx≤k)->slot A8.tm 178=.one (.b true)∧A8.nt=180∧A8.dfr=[]->K3 A8 H8):=by
     clear t2 t4 t6 t9 t10 t11 t45 t46 A0 B0;rintro s4 A8 H8 h1 h2 h3 ⟨t178,A0,B0⟩;refine P6.out _ _ ?_;refine zW tyF ?_;exact stop.out s4 _ _ h1 h2 h3 qe
    clear P6;by_cases hC1:cs.getD (i+1) 0=0
    case neg=>
     have eC1:(cs.getD (i+1) 0==0)=false:=zB5 hC1;rw[eC1,Bool.false_and,Bool.false_and]at S4;refine zS (zDf tyF (RG H8 f8) (ixC C0) (ixC D2) Nat.mul_one) ?_;exact rest.out s4 j4 _ _ J4 G9 f8 W3 (eJ S4) ⟨zL,zL⟩
    have eC1:(cs.getD (i+1) 0==0)=true:=beq_iff_eq.2 hC1;replace hC1:Hd _:=hC1;rw[eC1,Bool.true_and]at S4;by_cases hC2:0<cs.getD i 0
    case neg=>
     rw[decide_eq_false hC2,Bool.false_and]at S4;refine zS (zDf tyF (RG H8 f8) (ixC C0) (ixC D2) Nat.mul_one) ?_;exact rest.out s4 j4 _ _ J4 G9 f8 W3 (eJ S4) ⟨zL,zL⟩
    rw[decide_eq_true hC2,Bool.true_and]at S4;refine zS (zDg tY tyF (RG H8 f8) (ixC C0) (ixC D2) Nat.mul_one) ?_;refine WE.con (pA H8 us cs nm u _ qc il (i+1) (cs.getD i 0) (E_ H8 f8) (hcS H8 f8) J1.out D2 (by omega) (RG H8 f8).2.2.2.1.2 (RG H8 f8).2.1.2 (RG H8 f8).2.2.2.1.1 (RG H8 f8).2.1.1) λw' Hr gr hq=>?_;subst hq;have fR:=f8.gr gr;have Z_:=B.hJ G9 gr.nx λk hk=>gr.get k hk zB2;cases hB:iP us (i+1) (cs.getD i 0)with
    |false=>
     rw[hB]at S4;refine zS (zDf tyF (RG Hr fR) (ixC C0) (ixC D2) Nat.mul_one) ?_;exact rest.out s4 j4 _ _ J4 Z_ fR W3 (eJ S4) ⟨zL,zL⟩
    |true=>
     rw[hB]at S4;refine zS (zDg qx tyF (RG Hr fR) (ixC C0) (ixC D2) Nat.mul_one) ?_;obtain⟨U4,R2⟩:=drop_one S4
     refine WE.con (mO B s4 j4 Hr us nm u qb il 4 (i+1) (n-cs.getD i 0*vs.getD i 0+cs.getD i 0*vs.getD (i+1) 0) Z_ (E_ Hr fR) D2 (by omega) (RG Hr fR).1.2 (RG Hr fR).2.1.2 (RG Hr fR).1.1 (RG Hr fR).2.1.1 U4) λw' Hp0 fp0⟨b,s3,hq,Z5,m6,z6⟩=>?_;subst hq;have fP:=fR.then fp0 λk hk=>(W3 k hk).symm;have V4:∀k,B.fp s3 k->B.fp s k∨H6.nx≤k:=λk hk=>(z6 k hk).elim (λh=>W3 k h) λh=>.inr (zA2 fR.nx h);have C5:(if okN (n-cs.getD i 0*vs.getD i 0+cs.getD i 0*vs.getD (i+1) 0)=true then j4+1 else j4)≤S.length:=by
      cases D0:okN (n-cs.getD i 0*vs.getD i 0+cs.getD i 0*vs.getD (i+1) 0)with
      |true=>have:=(List.getElem?_eq_some_iff.1 (U4 D0)).1;rw[zB0 rfl];exact this
      |false=>rw[zB1 zA8];exact J4
     generalize(if okN (n-cs.getD i 0*vs.getD i 0+cs.getD i 0*vs.getD (i+1) 0)=true then j4+1 else j4)=jP at R2 Z5 C5
     cases b with
     |false=>
      refine zS (tyF) ?_;exact bad.out s3 _ _ (m6 rfl) fP V4 ⟨zL,zL,zL⟩
     |true=>
      replace Z5:=Z5 rfl;clear m6 U4;refine zS (zDf tyF (RG Hp0 fP) (ixC C0) (ixC D2) Nat.mul_one) ?_;exact rest.out s3 jP _ _ C5 Z5 fP V4 R2 ⟨zL,zL⟩
   have bad:Hd (∀(s4:σ)(A8:aa)(H8:Hp),B.F s4 H8->Fr (B.fp s) H6 H8->(∀k,B.fp s4 k->B.fp s k∨H6.nx≤k)->slot A8.tm 134=.one (.b true)∧A8.nt=180∧A8.dfr=[]->K3 A8 H8):=by
    clear t2 t4 t6 t9 t10 t11 t45 t46 A0 B0;rintro s4 A8 H8 h1 h2 h3 ⟨t134,A0,B0⟩;refine P6.out _ _ ?_;refine zW tyF ?_;exact stop.out s4 _ _ h1 h2 h3 qe
   clear P6;by_cases hC1:cs.getD i 0=0
   case neg=>
    have eC1:(cs.getD i 0==0)=false:=zB5 hC1;rw[eC1,Bool.false_and,Bool.false_and]at S4;refine zS (zDf tyF (RG H8 f8) (ixC C0) (ixC D2) Nat.mul_one) ?_;exact rest.out s4 j4 _ _ J4 G9 f8 W3 (eJ S4) ⟨zL,zL⟩
   have eC1:(cs.getD i 0==0)=true:=beq_iff_eq.2 hC1;replace hC1:Hd _:=hC1;rw[eC1,Bool.true_and]at S4;by_cases hC2:0<cs.getD (i+1) 0
   case neg=>
    rw[decide_eq_false hC2,Bool.false_and]at S4;refine zS (zDf tyF (RG H8 f8) (ixC C0) (ixC D2) Nat.mul_one) ?_;exact rest.out s4 j4 _ _ J4 G9 f8 W3 (eJ S4) ⟨zL,zL⟩
   rw[decide_eq_true hC2,Bool.true_and]at S4;refine zS (zDg tY tyF (RG H8 f8) (ixC C0) (ixC D2) Nat.mul_one) ?_;refine WE.con (pA H8 us cs nm u _ qc il i (cs.getD (i+1) 0) (E_ H8 f8) (hcS H8 f8) J1.out C0 (by omega) (RG H8 f8).2.2.2.1.2 (RG H8 f8).2.1.2 (RG H8 f8).2.2.2.1.1 (RG H8 f8).2.1.1) λw' Hr gr hq=>?_;subst hq;have fR:=f8.gr gr;have Z_:=B.hJ G9 gr.nx λk hk=>gr.get k hk zB2;cases hB:iP us i (cs.getD (i+1) 0)with
   |false=>
    rw[hB]at S4;refine zS (zDf tyF (RG Hr fR) (ixC C0) (ixC D2) Nat.mul_one) ?_;exact rest.out s4 j4 _ _ J4 Z_ fR W3 (eJ S4) ⟨zL,zL⟩
   |true=>
    rw[hB]at S4;refine zS (zDg qx tyF (RG Hr fR) (ixC C0) (ixC D2) Nat.mul_one) ?_;obtain⟨U4,R2⟩:=drop_one S4
    refine WE.con (mO B s4 j4 Hr us nm u qb il 3 i (n-cs.getD (i+1) 0*vs.getD (i+1) 0+cs.getD (i+1) 0*vs.getD i 0) Z_ (E_ Hr fR) C0 (by omega) (RG Hr fR).1.2 (RG Hr fR).2.1.2 (RG Hr fR).1.1 (RG Hr fR).2.1.1 U4) λw' Hp0 fp0⟨b,s3,hq,Z5,m6,z6⟩=>?_;subst hq;have fP:=fR.then fp0 λk hk=>(W3 k hk).symm;have V4:∀k,B.fp s3 k->B.fp s k∨H6.nx≤k:=λk hk=>(z6 k hk).elim (λh=>W3 k h) λh=>.inr (zA2 fR.nx h);have C5:(if okN (n-cs.getD (i+1) 0*vs.getD (i+1) 0+cs.getD (i+1) 0*vs.getD i 0)=true then j4+1 else j4)≤S.length:=by
     cases D0:okN (n-cs.getD (i+1) 0*vs.getD (i+1) 0+cs.getD (i+1) 0*vs.getD i 0)with
     |true=>have:=(List.getElem?_eq_some_iff.1 (U4 D0)).1;rw[zB0 rfl];exact this
     |false=>rw[zB1 zA8];exact J4
    generalize(if okN (n-cs.getD (i+1) 0*vs.getD (i+1) 0+cs.getD (i+1) 0*vs.getD i 0)=true then j4+1 else j4)=jP at R2 Z5 C5
    cases b with
    |false=>
     refine zS (tyF) ?_;exact bad.out s3 _ _ (m6 rfl) fP V4 ⟨zL,zL,zL⟩
    |true=>
     replace Z5:=Z5 rfl;clear m6 U4;refine zS (zDf tyF (RG Hp0 fP) (ixC C0) (ixC D2) Nat.mul_one) ?_;exact rest.out s3 jP _ _ C5 Z5 fP V4 R2 ⟨zL,zL⟩
  have bad:Hd (∀(s4:σ)(A8:aa)(H8:Hp),B.F s4 H8->Fr (B.fp s) H6 H8->(∀k,B.fp s4 k->B.fp s k∨H6.nx≤k)->slot A8.tm 87=.one (.b true)∧A8.nt=180∧A8.dfr=[]->K3 A8 H8):=by
   clear t2 t4 t6 t9 t10 t45 t46 A0 B0;rintro s4 A8 H8 h1 h2 h3 ⟨t87,A0,B0⟩;refine P6.out _ _ ?_;refine zW tyF ?_;exact stop.out s4 _ _ h1 h2 h3 qe
  clear P6;by_cases hA:0<cs.getD i 0
  ·have eA:decide (0<cs.getD i 0)=true:=decide_eq_true hA;rw[eA]at s7;refine zS (zDf tyF (RG H7 f7) qx (ixC C0) Nat.mul_one) ?_;obtain⟨U4,R2⟩:=drop_one s7
   refine WE.con (mO B s2 j H7 us nm u qb il 1 i (n-vs.getD i 0) hj7 (E_ H7 f7) C0 (by omega) (RG H7 f7).1.2 (RG H7 f7).2.1.2 (RG H7 f7).1.1 (RG H7 f7).2.1.1 U4) λw' Hp0 fp0⟨b,s3,hq,Z5,m6,z6⟩=>?_;subst hq;have fP:=f7.then fp0 λk hk=>(Y5 k hk).symm;have V4:∀k,B.fp s3 k->B.fp s k∨H6.nx≤k:=λk hk=>(z6 k hk).elim (λh=>Y5 k h) λh=>.inr (zA2 f7.nx h);have C5:(if okN (n-vs.getD i 0)=true then j+1 else j)≤S.length:=by
    cases D0:okN (n-vs.getD i 0)with
    |true=>have:=(List.getElem?_eq_some_iff.1 (U4 D0)).1;rw[zB0 rfl];exact this
    |false=>rw[zB1 zA8];exact hjS
   generalize(if okN (n-vs.getD i 0)=true then j+1 else j)=jP at R2 Z5 C5
   cases b with
   |false=>
    refine zS (tyF) ?_;exact bad.out s3 _ _ (m6 rfl) fP V4 ⟨zL,zL,zL⟩
   |true=>
    replace Z5:=Z5 rfl;clear m6 U4;refine zS (zDf tyF (RG Hp0 fP) tY (ixC C0) Nat.mul_one) ?_;refine WE.con (pA Hp0 us cs nm u _ qc il i (cs.getD i 0+1) (E_ Hp0 fP) (hcS Hp0 fP) J1.out C0 (by omega) (RG Hp0 fP).2.2.2.1.2 (RG Hp0 fP).2.1.2 (RG Hp0 fP).2.2.2.1.1 (RG Hp0 fP).2.1.1) λw' Hr gr hq=>?_;subst hq;have fR:=fP.gr gr;have Z_:=B.hJ Z5 gr.nx λk hk=>gr.get k hk zB2;cases hB:iP us i (cs.getD i 0+1)with
    |false=>
     rw[hB]at R2;refine zS (qA tyF (RG Hr fR)) ?_;exact rest.out s3 jP _ _ C5 Z_ fR V4 (eJ R2) ⟨zL,zL,zL⟩
    |true=>
     rw[hB]at R2;refine zS (zDf tyF (RG Hr fR) qx (ixC C0) Nat.mul_one) ?_;obtain⟨U4,R2⟩:=drop_one R2
     refine WE.con (mO B s3 jP Hr us nm u qb il 2 i (n+vs.getD i 0) Z_ (E_ Hr fR) C0 (by omega) (RG Hr fR).1.2 (RG Hr fR).2.1.2 (RG Hr fR).1.1 (RG Hr fR).2.1.1 U4) λw' Hp0 fp0⟨b,s3,hq,Z5,m6,z6⟩=>?_;subst hq;have fP:=fR.then fp0 λk hk=>(V4 k hk).symm;have V4:∀k,B.fp s3 k->B.fp s k∨H6.nx≤k:=λk hk=>(z6 k hk).elim (λh=>V4 k h) λh=>.inr (zA2 fR.nx h);have C5:(if okN (n+vs.getD i 0)=true then jP+1 else jP)≤S.length:=by
      cases D0:okN (n+vs.getD i 0)with
      |true=>have:=(List.getElem?_eq_some_iff.1 (U4 D0)).1;rw[zB0 rfl];exact this
      |false=>rw[zB1 zA8];exact C5
     generalize(if okN (n+vs.getD i 0)=true then jP+1 else jP)=jP at R2 Z5 C5
     cases b with
     |false=>
      refine zS (tyF) ?_;exact bad.out s3 _ _ (m6 rfl) fP V4 ⟨zL,zL,zL⟩
     |true=>
      replace Z5:=Z5 rfl;clear m6 U4;refine zS (qA tyF (RG Hp0 fP)) ?_;exact rest.out s3 jP _ _ C5 Z5 fP V4 R2 ⟨zL,zL,zL⟩
  have eA:decide (0<cs.getD i 0)=false:=decide_eq_false hA;rw[eA]at s7;replace s7:=eJ s7;refine zS (zDf tyF (RG H7 f7) tY (ixC C0) Nat.mul_one) ?_;refine WE.con (pA H7 us cs nm u _ qc il i (cs.getD i 0+1) (E_ H7 f7) (hcS H7 f7) J1.out C0 (by omega) (RG H7 f7).2.2.2.1.2 (RG H7 f7).2.1.2 (RG H7 f7).2.2.2.1.1 (RG H7 f7).2.1.1) λw' Hr gr hq=>?_;subst hq;have fR:=f7.gr gr;have Z_:=B.hJ hj7 gr.nx λk hk=>gr.get k hk zB2;cases hB:iP us i (cs.getD i 0+1)with
  |false=>
   rw[hB]at s7;refine zS (qA tyF (RG Hr fR)) ?_;exact rest.out s2 j _ _ hjS Z_ fR Y5 (eJ s7) ⟨zL,zL,zL⟩
  |true=>
   rw[hB]at s7;refine zS (zDf tyF (RG Hr fR) qx (ixC C0) Nat.mul_one) ?_;obtain⟨U4,R2⟩:=drop_one s7
   refine WE.con (mO B s2 j Hr us nm u qb il 2 i (n+vs.getD i 0) Z_ (E_ Hr fR) C0 (by omega) (RG Hr fR).1.2 (RG Hr fR).2.1.2 (RG Hr fR).1.1 (RG Hr fR).2.1.1 U4) λw' Hp0 fp0⟨b,s3,hq,Z5,m6,z6⟩=>?_;subst hq;have fP:=fR.then fp0 λk hk=>(Y5 k hk).symm;have V4:∀k,B.fp s3 k->B.fp s k∨H6.nx≤k:=λk hk=>(z6 k hk).elim (λh=>Y5 k h) λh=>.inr (zA2 fR.nx h);have C5:(if okN (n+vs.getD i 0)=true then j+1 else j)≤S.length:=by
    cases D0:okN (n+vs.getD i 0)with
    |true=>have:=(List.getElem?_eq_some_iff.1 (U4 D0)).1;rw[zB0 rfl];exact this
    |false=>rw[zB1 zA8];exact hjS
   generalize(if okN (n+vs.getD i 0)=true then j+1 else j)=jP at R2 Z5 C5
   cases b with
   |false=>
    refine zS (tyF) ?_;exact bad.out s3 _ _ (m6 rfl) fP V4 ⟨zL,zL,zL⟩
   |true=>
    replace Z5:=Z5 rfl;clear m6 U4;refine zS (qA tyF (RG Hp0 fP)) ?_;exact rest.out s3 jP _ _ C5 Z5 fP V4 R2 ⟨zL,zL,zL⟩
 have S1:i=us.length:=by omega
 refine zW tyF ?_;refine k2.out _ _ ?_;have C8:B.J S.length s2 H7:=by
  have h:=s7.out;have e:(List.range us.length).drop i=[]:=List.drop_eq_nil_of_le (by rw[List.length_range];omega);rw[e,List.flatMap_nil]at h;have h2:=congrArg List.length h;rw[List.length_drop,List.length_nil]at h2;have h3:j=S.length:=by omega
  exact h3▸hj7
 exact fin .normal (.inl rfl) s2 H7 _ (.inl C8) f7 Y5 qe
def tO:ao Tryz.prog 52=true:=by kernel_rfl
def yN(H:Hp)(n u:AC)(m:Int)(hu:ltV (.one u) H.nx):
  Con E2 40 [.agg [n,u],.one (.i .i64 m)] H (λ_=>False) λr H'=>r=.one (.o (.clo 65 [(H.nx,0,0,2),(H.nx+1,0,0,1)]))∧H'.get H.nx=some (.arr [n,u] 51 0 0)∧H'.get (H.nx+1)=some (.arr [.i .i64 m] 3 0 0)∧H.nx+1<H'.nx:=by
 refine Con.of rfl λlg=>?_;have hu:ltV (.one u) (⟨H.t,H.nx,lg⟩:Hp).nx:=hu;have e0:H.nx=(⟨H.t,H.nx,lg⟩:Hp).nx:=rfl;rw[e0];clear e0;generalize(⟨H.t,H.nx,lg⟩:Hp)=H at hu ⊢
 refine C1.body (E:=E2) (nt:=6) (res:=[.tmp 4]) Tryz.func40 rfl rfl rfl rfl rfl λtm z0=>?_;have h0:=z0 0 _ rfl;have h1:=z0 1 _ rfl;clear z0;refine zW tyF ?_;refine⟨_,_,aj (.o (.clo 65 [(H.nx,0,0,2),(H.nx+1,0,0,1)])) (.inr rfl) qe qp,((Fr.refl _).new _).new _,λ_=>⟨rfl,?_,?_,?_⟩⟩
 ·show((H.new _).new _).get H.nx=_
  rw[aS (by show H.nx<H.nx+1;omega)];exact aB rfl
 ·show((H.new _).new _).get (H.nx+1)=_
  exact aB rfl
 show H.nx+1<H.nx+1+1;omega
def fN:List Sp->Int->Int
 |[],_=>0
 |x::S,m=>if x.2.2=m then x.1 else fN S m
def ES(H:Hp)(nm:List UInt8)(u:AC)(us:List Pr)(m n:Int)(hu:SlP H u us)(L0:aH nm us=0)(M5:1≤n)(X7:n≤1099511627776)(hSB:JB us (aG us n) (dR nm us)):
  Con E2 52 [.agg [.o (.str nm),u],.one (.i .i64 m),.one (.i .i64 n)] H (λ_=>False) λr _=>r=.one (.i .i64 (fN (fC us (aG us n) (dR nm us) n) m)):=by
 refine Con.of rfl λlg=>?_;have hu:SlP ⟨H.t,H.nx,lg⟩ u us:=hu;generalize(⟨H.t,H.nx,lg⟩:Hp)=H at hu ⊢
 refine C1.body (E:=E2) (nt:=18) (res:=[.cell 6 3]) Tryz.func52 rfl rfl rfl rfl rfl λtm z0=>?_;have h0:=z0 0 _ rfl;have h1:=z0 1 _ rfl;have h2:=z0 2 _ rfl;clear z0;have U2:∀id∈(AV.one u).ids,id<H.nx:=hu.lt;generalize G0:fN (fC us (aG us n) (dR nm us) n) m=r0;refine zG tyF λK hK=>?_;refine hK.out _ _ ?_;refine R1.gen (λA1 H1=>Gr H H1∧H.nx+2<H1.nx∧H1.get H.nx=some (.arr [.o (.str nm),u] 51 0 0)∧H1.get (H.nx+1)=some (.arr [.i .i64 m] 3 0 0)∧H1.get (H.nx+1+1)=some (.arr [.i .i64 0] 3 0 0)∧slot A1.tm 2=.one (.i .i64 (n:Int))∧slot A1.tm 3=.one ((.o (.ptr H.nx 0 0 2)))∧slot A1.tm 4=.one ((.o (.ptr (H.nx+1) 0 0 1)))∧slot A1.tm 6=.one ((.o (.ptr (H.nx+1+1) 0 0 1)))∧A1.nt=18∧A1.dfr=[])
  ⟨(((Fr.refl _).new _).new _).new _,by show H.nx+2<H.nx+1+1+1;omega,by rw[aS (by show H.nx<H.nx+1+1;omega),aS (by show H.nx<H.nx+1;omega)];exact aB rfl,by rw[aS (by show H.nx+1<H.nx+1+1;omega)];exact aB rfl,aB rfl,zL⟩ ?_
 clear h0 h1 h2 tm hK K;rintro A1 H1 ⟨g1,n1,r1,r2,r3,t2,t3,t4,t6,A0,B0⟩;have X1:SlP H1 u us:=hu.gr g1;obtain⟨c1,E8⟩:∃c,c=H.nx:=⟨_,rfl⟩
 obtain⟨c2,N7⟩:∃c,c=H.nx+1:=⟨_,rfl⟩
 obtain⟨c3,N6⟩:∃c,c=H.nx+1+1:=⟨_,rfl⟩
 rw[<-N6]at r3 t6;rw[<-N7]at r2 t4;rw[<-E8]at r1 t3 U2;have o12:c1<c2:=by omega
 have o23:c2<c3:=by omega
 have o3:c3<H1.nx:=by omega
 have X3:H.nx≤c1:=by omega
 clear N6 N7 E8 n1;have l1:c1<H1.nx:=by omega
 have l2:c2<H1.nx:=by omega
 have fin:∀(e:ak)(A:aa)(H2 H3:Hp),(e=.normal∨e=.ret)->closeAll H2 A.dfr=some H3->Gr H H3->slot A.tm 6=.one (.o (.ptr c3 0 0 1))->H3.get c3=some (.arr [.i .i64 r0] 3 0 0) ->
   ∃w H4,aC E2 [.cell 6 3] (e,A,H2)=.ok [(w,H4)]∧Gr H H4∧∀_:List Nat,w=.one (.i .i64 r0):=λe A H2 H3 he hd hg hs hr=>
  ⟨_,H3,pF (c:=.i .i64 r0) bE he hd hs (by rw[hr];exact cG (zA1 _) (zA1 _)) (zA1 _) (zA1 _) rfl,hg,λ_=>rfl⟩
 have hlu:ltV (.one u) H1.nx:=X1.lt;replace G0:Hd _:=G0;refine zG (qA tyF DV) λK hK=>?_;refine WE.con (yN H1 (.o (.str nm)) u n X1.lt) λv H5 g5⟨hv,C4,y8,J8⟩=>?_;subst hv;refine zS tyF ?_;refine hK.out _ _ ?_;refine R1.jw (λA4=>slot A4.tm 3=.one ((.o (.ptr c1 0 0 2)))∧slot A4.tm 4=.one ((.o (.ptr c2 0 0 1)))∧slot A4.tm 6=.one ((.o (.ptr c3 0 0 1)))∧slot A4.tm 10=.one ((.o (.clo 65 [(H1.nx,0,0,2),(H1.nx+1,0,0,1)])))∧A4.nt=18∧A4.dfr=[]) zL ?_;clear t2 t3 t4 t6 A0 B0 A1 hK K;rintro A ⟨t3,t4,t6,t10,A0,B0⟩;have gg:Gr H H5:=g1.gr g5;have r2:=(g5.get _ l2 zB2).trans r2;have r3:=(g5.get _ o3 zB2).trans r3;have W4:SlP H5 u us:=X1.gr g5;obtain⟨il,Q8⟩:∃i,i=H1.nx:=⟨_,rfl⟩
 rw[<-Q8]at C4 y8 J8 t10 o3 l1 l2;clear Q8 hlu r1;generalize hS:fC us (aG us n) (dR nm us) n=S at G0;refine R1.ba λK k1 k2 k3 k4=>?_;refine R1.range (σ:=Unit) (g:=65) (caps:=[(il,0,0,2),(il+1,0,0,1)]) (n:=S.length) (ar:=slA S) (D:=λk=>k=il∨k=il+1∨k∈(AV.one u).ids) (by simp only[zY,t10]) xX (λ_=>rfl)
  (Az H5 il (il+1) nm u us n (by omega) C4 J8 y8 W4 L0 M5 X7 _ _ rfl rfl hSB S hS) (λk hk=>by
   rcases hk with h|h|h
   ·omega
   ·omega
   exact Nat.lt_trans (U2 k h) (by omega)) (by rw[A0];rfl) (λi _=>Mw S i)
  (λi _ H6=>H6.get c2=some (.arr [.i .i64 m] 3 0 0)∧H6.get c3=some (.arr [.i .i64 0] 3 0 0)∧Hd (fN (S.drop i) m=r0)∧H5.nx≤H6.nx)
  (λe _ H6=>e=.ret∧H6.get c3=some (.arr [.i .i64 r0] 3 0 0)∧H5.nx≤H6.nx)
  (λ_ k=>k=c3) ?_ ?_ ?_ () ?_ ?_ ?_ ?_
 ·rintro i _ H6 H7 ⟨a1,a2,a4,a5⟩ hs;exact⟨by rw[hs.get _ (by omega) (by omega)];exact a1,by rw[hs.get _ (by omega) (by omega)];exact a2,a4,zA2 a5 hs.nx⟩
 ·rintro e _ H6 H7 ⟨a1,a2,a5⟩ hs;exact⟨a1,by rw[hs.get _ (by omega) (by omega)];exact a2,zA2 a5 hs.nx⟩
 ·rintro i _ H6 k ⟨a1,a2,a4,a5⟩ rfl;refine⟨by omega,by omega,by omega,λh=>?_⟩
  rcases h with h|h|h
  ·omega
  ·omega
  have:=U2 _ h;omega
 ·intro H6 g6 n6;exact⟨by rw[g6.get _ (by omega) zB2];exact r2,by rw[g6.get _ (by omega) zB2];exact r3,by rw[List.drop_zero];exact G0,g6.nx⟩
 ·rintro i _ H6 hi ⟨a1,a2,a4,a5⟩ n6;have hy:S[i]?=some S[i]:=zB4 hi;have N0:S.drop i=S[i]::S.drop (i+1):=List.drop_eq_getElem_cons hi;generalize S[i]=y at hy N0;replace a4:=a4.out;rw[N0,fN]at a4;rw[Js hy];obtain⟨kd,sg,nn⟩:=y
  refine R1.jw (λA7=>slot A7.tm 4=.one (.o (.ptr c2 0 0 1))∧slot A7.tm 6=.one (.o (.ptr c3 0 0 1))∧slot A7.tm 11=.agg [.i .i64 kd,.o (.str sg),.i .i64 nn]∧A7.nt=18∧A7.dfr=[]) ⟨?_,?_,?_,A0,rfl⟩ ?_
  ·show slot (A.tm.set 11 _) 4=_;simp only[bR,Nat.reduceEqDiff,reduceIte,t4]
  ·show slot (A.tm.set 11 _) 6=_;simp only[bR,Nat.reduceEqDiff,reduceIte,t6]
  ·show slot (A.tm.set 11 _) 11=_;simp only[bR,Nat.reduceEqDiff,reduceIte];rfl
  clear t3 t4 t6 t10 A0 B0 r2 r3;rintro A7 ⟨t4,t6,t11,A0,B0⟩;replace hS:Hd _:=hS;replace a4:Hd _:=a4;clear N0 hy;refine zW tyF ?_;refine⟨rfl,((Fr.refl _).new _).mod _ (.inl (zA1 _)),λH8 n8 s8=>?_⟩
  have gu:H8.get H6.nx=some (.arr [.i .i64 kd,.o (.str sg),.i .i64 nn] 63 0 0):=by
   rw[s8.get _ (by show H6.nx<H6.nx+1;omega) (by omega)];exact an rfl
  have keep:∀k,k<H5.nx->H8.get k=H6.get k:=λk hk=>by
   rw[s8.get _ (by show k<H6.nx+1;omega) (by omega),au (by omega),aS (by omega)]
  have n8':H8.nx=H6.nx+1:=n8;have b2:H8.get c2=some (.arr [.i .i64 m] 3 0 0):=(keep c2 (by omega)).trans a1;have b3:H8.get c3=some (.arr [.i .i64 0] 3 0 0):=(keep c3 (by omega)).trans a2;have lu:H6.nx<H8.nx:=by omega
  have m2:c2<H8.nx:=by omega
  have m3:c3<H8.nx:=by omega
  have m5:H5.nx≤H8.nx:=by omega
  clear keep n8 n8' a1 a2 s8;refine R1.kX λK2 p1 p2 p3 p4=>?_;by_cases T4:nn=m
  ·have e4:=a4.out;rw[zB0 T4]at e4;replace e4:kd=r0:=e4;clear a4;have cs:(nn==m)=true:=beq_iff_eq.2 T4;replace T4:Hd _:=T4;replace e4:Hd _:=e4;refine zW tyF ?_;refine p4 _ _ ⟨qe,(Fr.refl _).mod _ (.inr (.inl rfl)),(),λh=>(by cases h),λ_=>⟨rfl,?_,m5⟩,λk hk=>.inl hk⟩;rw[<-e4.out];exact an rfl
  have e4:=a4.out;rw[zB1 T4]at e4;clear a4;have cs:(nn==m)=false:=zB5 T4;replace T4:Hd _:=T4;replace e4:Hd _:=e4;refine zW tyF ?_;refine p1 _ _ ⟨qe,Fr.refl _,(),λ_=>⟨b2,b3,e4,m5⟩,λh=>absurd rfl h,λk hk=>.inl hk⟩
 ·rintro s' H6 ⟨a1,a2,a4,a5⟩ n6 n_ D8 Y5;have g6:Gr H H6:=gg.then D8 λk hk=>.inl (by rcases hk with rfl;omega);have m3:c3<H6.nx:=by omega
  replace a4:=a4.out;rw[List.drop_length,fN]at a4;refine k1 _ _ ?_;refine R1.jw (λA7=>slot A7.tm 6=.one (.o (.ptr c3 0 0 1))∧A7.nt=18∧A7.dfr=[H5.nx]) ⟨t6,A0,by show H5.nx::A.dfr=_;rw[B0]⟩ ?_;clear t3 t4 t6 t10 A0 B0 r2 r3;rintro A7 ⟨t6,A0,B0⟩;replace hS:Hd _:=hS;replace a4:Hd _:=a4;refine zW tyF ?_;refine fin .ret _ _ _ (.inr rfl) (by simp only[al,B0];exact eG (by rw[au (by omega)];exact n_)) ((g6.mod _ (.inl (by omega))).mod _ (.inl (by have:=gg.nx;omega))) t6 (by rw[au (by omega),<-a4.out];exact an rfl)
 rintro e s' H6 Z0 ⟨rfl,a2,a5⟩ n6 n_ D8 Y5;have g6:Gr H H6:=gg.then D8 λk hk=>.inl (by rcases hk with rfl;omega);exact k4 _ _ (fin .ret _ _ _ (.inr rfl) (by show closeAll H6 (H5.nx::A.dfr)=_;rw[B0];exact eG n_) (g6.mod _ (.inl (by have:=gg.nx;omega))) t6 (by rw[au (by omega)];exact a2))
def vQ:∀(us:List Pr)(ds:List Int)(i:Nat)(d:Int),ds.length=us.length->i<us.length->evH us (ds.set i d)=evH us ds+(d-ds.getD i 0)*vW us i
 |[],_,i,_,_,hi=>absurd hi (Nat.not_lt_zero i)
 |_::_,[],_,_,h,_=>by cases h
 |[x],c::ds,i,d,h,hi=>by
  have:i=0:=by simp at hi;omega
  subst this;show d=c+(d-c)*1;omega
 |x::y::l,c::ds,0,d,h,hi=>by
  show d+y.2*evH (y::l) ds=c+y.2*evH (y::l) ds+(d-c)*1;omega
 |x::y::l,c::ds,i+1,d,h,hi=>by
  rw[List.set_cons_succ,evH,evH,vQ (y::l) ds i d (by simpa using h) (by simp at hi ⊢;omega),List.getD_cons_succ,vW,Int.mul_add,Int.add_assoc,Int.mul_left_comm]
def Mb:∀(us:List Pr)(i:Nat),i+1<us.length->vW us (i+1)=vW us i*(us.getD (i+1) ([],0)).2
 |[],i,h=>absurd h (Nat.not_lt_zero _)
 |[_],i,h=>absurd h (by simp)
 |x::y::l,0,_=>by
  show y.2*1=1*y.2;omega
 |x::y::l,i+1,h=>by
  rw[vW,Mb (y::l) i (by simp at h ⊢;omega),vW,Int.mul_assoc];rfl
def Iu:∀(us:List Pr)(i:Nat),i<us.length->(∀x∈us,1≤x.2)->1≤vW us i
 |_,0,_,_=>by rw[vW];omega
 |[],i+1,h,_=>absurd h (Nat.not_lt_zero _)
 |[_],i+1,h,_=>absurd h (by simp)
 |x::y::l,i+1,h,hf=>by
  rw[vW];have h1:=Iu (y::l) i (by simp at h ⊢;omega) λz hz=>hf z (List.mem_cons_of_mem _ hz);have h2:=hf y (by simp);have:=Int.mul_le_mul h2 h1 (by omega) (by omega);omega
def Xd:∀(us:List Pr)(ds:List Int),oY us ds->(∀x∈us,1≤x.2)->0≤evH us ds∧∀i,i<us.length->ds.getD i 0*vW us i≤evH us ds
 |[],[],_,_=>⟨Int.le_refl _,λi hi=>absurd hi (Nat.not_lt_zero i)⟩
 |[],_::_,h,_=>by cases h.1
 |[_],[],h,_=>by cases h.1
 |[x],[d],h,_=>⟨(h.2 0 (by simp)).1,λi hi=>by
  have:i=0:=by simp at hi;omega
  subst this;show d*1≤d;omega⟩
 |[_],_::_::_,h,_=>by cases h.1
 |_::_::_,[],h,_=>by cases h.1
 |x::y::l,d::ds,h,hf=>by
  obtain⟨h0,h1,h2⟩:=h.tl
  obtain⟨e0,e1⟩:=Xd (y::l) ds h2 λz hz=>hf z (List.mem_cons_of_mem _ hz)
  have hy:=hf y (by simp);have e2:0≤y.2*evH (y::l) ds:=Int.mul_nonneg (by omega) e0;rw[evH];refine⟨by omega,λi hi=>?_⟩
  cases i with
  |zero=>
   show d*1≤_;omega
  |succ i=>
   have e3:=e1 i (by simp at hi ⊢;omega);rw[List.getD_cons_succ,vW,Int.mul_left_comm];have:=Int.mul_le_mul_of_nonneg_left e3 (show 0≤y.2 by omega);omega
def XB:∀(v:Int)(x:Pr)(l:List Pr)(i:Nat)(y:Pr×Int),(yv v (x::l)).length=(x::l).length->(yv v (x::l))[i]?=some y->y.2=v*x.2*vW (x::l) i∧y.2≤1099511627776
 |v,x,l,i,y,h,hy=>by
  rw[yv]at h hy;by_cases hb:x.2<1∨60<x.2∨1099511627776<v*x.2
  ·rw[zB0 hb]at hy;simp at hy
  rw[zB1 hb]at h hy;cases i with
  |zero=>
   rw[List.getElem?_cons_zero]at hy;cases hy
   rw[vW];exact⟨by show v*x.2=_;omega,by show v*x.2≤_;omega⟩
  |succ i=>
   rw[List.getElem?_cons_succ]at hy;cases l with
   |nil=>rw[yv]at hy;simp at hy
   |cons z l=>
    obtain⟨e1,e2⟩:=XB (v*x.2) z l i y (by simpa using h) hy
    exact⟨by rw[e1,vW,Int.mul_assoc (v*x.2)],e2⟩
def pD{nm:List UInt8}{us:List Pr}(L0:aH nm us=0){i:Nat}(hi:i<us.length):(dR nm us).getD i 0=vW us i∧vW us i≤1099511627776:=by
 obtain⟨hL,Z9,hf⟩:=iA L0
 have hx:us[i]?=some us[i]:=zB4 hi;have D0:eL nm us=true:=by
  unfold aH at L0;by_cases h:eL nm us=true
  ·exact h
  rw[zB1 h]at L0;cases L0
 have P3:=D0;rw[<-yq]at P3;unfold fE at P3;simp only[Bool.and_eq_true,List.all_eq_true,List.mem_range]at P3;have hr:=P3.1.2 i hi;have eg:us.getD i ([],0)=us[i]:=by rw[List.getD_eq_getElem?_getD,hx];rfl
 rw[eg]at hr;unfold kr at hr;simp only[Bool.and_eq_true,decide_eq_true_eq]at hr;have hid:=hr.2.1;have e1:(dR nm us).getD i 0=(oo nm us us[i].1).1:=by
  unfold dR;rw[List.getD_eq_getElem?_getD,List.getElem?_map,hx];rfl
 rw[e1];unfold oo;rw[zB1 (λh=>h L0)];obtain⟨x,l,hxl,O0⟩:=eB L0
 rcases Dy 0 1 us us[i].1 Z9 with⟨h1,_⟩|⟨j,y,hj,h1,h2,h3⟩
 ·rw[hid]at h1;omega
 have:j=i:=by rw[hid]at h1;omega
 subst this;rw[h3];subst hxl;obtain⟨a,b⟩:=XB 1 x l j y Z9 h2
 rw[O0,Int.one_mul,Int.one_mul]at a;exact⟨a,a▸b⟩
def Ck{nm:List UInt8}{us:List Pr}(L0:aH nm us=0){n:Int}(M5:0≤n)(X7:n≤1099511627776):JB us (aG us n) (dR nm us):=by
 obtain⟨hL,Z9,hf⟩:=iA L0
 have l6:∀x∈us,1≤x.2:=λx hx=>(hf x hx).1;obtain⟨x,l,hxl,O0⟩:=eB L0
 have hd:=kg us n M5 l6;have he:=mW us n (by rw[hxl];simp);have hg:=(Xd us _ hd l6).2;rw[he]at hg;have key:∀i,i<us.length->0≤(aG us n).getD i 0∧(aG us n).getD i 0≤1099511627776∧(aG us n).getD i 0*vW us i≤1099511627776∧0≤(aG us n).getD i 0*vW us i:=λi hi=>by
  have a1:=(hd.2 i hi).1;have a2:=hg i hi;have a3:=Iu us i hi l6;have a4:=Int.mul_le_mul_of_nonneg_left a3 a1;exact⟨a1,by omega,by omega,by omega⟩
 intro i hi;obtain⟨k1,k2,k3,k4⟩:=key i hi
 obtain⟨v1,v2⟩:=pD L0 hi
 have v3:=Iu us i hi l6;rw[v1];refine⟨⟨k1,k2⟩,⟨by omega,v2⟩,λR3=>?_⟩
 obtain⟨l1,l2,l3,l4⟩:=key (i+1) R3
 obtain⟨w1,w2⟩:=pD L0 R3
 rw[w1];have hy:=hf (us.getD (i+1) ([],0)) (by rw[List.getD_eq_getElem?_getD,zB4 R3];exact List.getElem_mem R3);have ws:=Mb us i R3;have s1:vW us i≤vW us (i+1):=by
  rw[ws];have:=Int.mul_le_mul_of_nonneg_left hy.1 (show 0≤vW us i by omega);omega
 have s2:=Int.mul_le_mul_of_nonneg_left s1 l1;have s3:(aG us n).getD i 0*vW us (i+1)=(aG us n).getD i 0*vW us i*(us.getD (i+1) ([],0)).2:=by rw[ws,Int.mul_assoc]
 have s4:=Int.mul_le_mul_of_nonneg_left hy.2 k4;have s5:=Int.mul_nonneg k4 (show 0≤(us.getD (i+1) ([],0)).2 by omega);have s6:=Int.mul_nonneg l1 (show 0≤vW us i by omega);exact⟨⟨l4,l3⟩,⟨s6,by omega⟩,⟨k4,k3⟩,by omega,by omega⟩
def VN(p:Nat->Bool):∀n:Nat,(∀j,j<n->p j=false)->(List.range n).filter p=[]
 |0,_=>rfl
 |n+1,h=>by
  rw[List.range_succ,List.filter_append,VN p n λj hj=>h j (by omega),List.filter_cons,h n (by omega)];rfl
def Yr(p:Nat->Bool)(i:Nat):∀n:Nat,i<n->(∀j,j<n->p j=decide (j=i))->(List.range n).filter p=[i]
 |0,h,_=>absurd h (Nat.not_lt_zero i)
 |n+1,hi,h=>by
  rw[List.range_succ,List.filter_append,List.filter_cons,h n (by omega)];by_cases he:n=i
  ·subst he;rw[VN p n λj hj=>by rw[h j (by omega)];exact decide_eq_false (by omega),decide_eq_true rfl];rfl
  rw[Yr p i n (by omega) λj hj=>h j (by omega),decide_eq_false he];rfl
def ZR(p:Nat->Bool)(i:Nat):∀n:Nat,i+1<n->(∀j,j<n->p j=(decide (j=i)||decide (j=i+1)))->(List.range n).filter p=[i,i+1]
 |0,h,_=>absurd h (Nat.not_lt_zero _)
 |n+1,hi,h=>by
  rw[List.range_succ,List.filter_append,List.filter_cons,h n (by omega)];by_cases he:n=i+1
  ·subst he;rw[Yr p i (i+1) (by omega) λj hj=>by rw[h j (by omega),decide_eq_false (show¬j=i+1 by omega),Bool.or_false],decide_eq_true rfl,Bool.or_true];rfl
  rw[ZR p i n (by omega) λj hj=>h j (by omega),decide_eq_false he,decide_eq_false (show¬n=i by omega)];rfl
def jF(cs ds:List Int)(n:Nat):List Nat:=(List.range n).filter λi=>cs.getD i 0 != ds.getD i 0
def fY(cs ds:List Int):List Nat->Int
 |[a]=>if cs.getD a 0=ds.getD a 0+1 then 1 else if cs.getD a 0+1=ds.getD a 0 then 2 else 0
 |[a,b]=>if b=a+1 then(if ds.getD b 0=0∧1≤ds.getD a 0∧cs.getD a 0=0∧cs.getD b 0=ds.getD a 0 then 3 else if ds.getD a 0=0∧1≤ds.getD b 0∧cs.getD b 0=0∧cs.getD a 0=ds.getD b 0 then 4 else 0)else 0
 |_=>0
def cP(l:List Int)(i j:Nat)(d:Int)(hi:i<l.length):(l.set i d).getD j 0=if j=i then d else l.getD j 0:=by
 rw[List.getD_eq_getElem?_getD,List.getElem?_set];by_cases h:i=j
 ·subst h;rw[zB0 rfl,zB0 hi,zB0 rfl];rfl
 rw[zB1 h,zB1 (λe=>h e.symm),List.getD_eq_getElem?_getD]
def Zb{l k:List Int}(h:l.length=k.length)(he:∀j,j<l.length->l.getD j 0=k.getD j 0):l=k:=by
 apply List.ext_getElem? 
 intro j;rcases Nat.lt_or_ge j l.length with hj|hj
 ·have:=he j hj;rw[List.getD_eq_getElem?_getD,List.getD_eq_getElem?_getD,zB4 hj,zB4 (h▸hj)]at this;rw[zB4 hj,zB4 (h▸hj)];exact congrArg some this
 rw[List.getElem?_eq_none hj,List.getElem?_eq_none (h▸hj)]
def oY.set{us:List Pr}{ds:List Int}(h:oY us ds){i:Nat}{d:Int}(hi:i<us.length)(h0:0≤d)(h1:i+1<us.length->d<(us.getD (i+1) ([],0)).2):oY us (ds.set i d):=by
 have hl:=h.1;refine⟨by rw[List.length_set];exact hl,λj hj=>?_⟩
 rw[cP _ _ _ _ (by omega)];by_cases e:j=i
 ·subst e;rw[zB0 rfl];exact⟨h0,h1⟩
 rw[zB1 e];exact h.2 j hj
def eF{us:List Pr}{i:Nat}{k:Int}(hi:i<us.length):iP us i k=true↔(i+1<us.length->k<(us.getD (i+1) ([],0)).2):=by
 unfold iP;rw[Bool.or_eq_true,beq_iff_eq,decide_eq_true_eq];constructor
 ·rintro(h|h) h2
  ·omega
  exact h
 intro h;rcases Nat.lt_or_ge (i+1) us.length with h1|h1
 ·exact .inr (h h1)
 exact .inl (by omega)
def eY{b:Bool}{x y:Sp}:y∈one b x↔b=true∧okN x.2.2=true∧y=x:=by
 unfold one;cases b with
 |false=>simp
 |true=>
  cases h:okN x.2.2 with
  |false=>simp
  |true=>simp
def Ex{m k:Int}:∀{S:List Sp},(∀x∈S,x.2.2=m->x.1=k)->(k=0∨∃x∈S,x.2.2=m)->fN S m=k
 |[],_,h=>by
  rcases h with h|⟨x,hx,_⟩
  ·exact h.symm
  cases hx
 |x::S,h1,h2=>by
  rw[fN];by_cases h:x.2.2=m
  ·rw[zB0 h];exact h1 x (List.mem_cons_self ..) h
  rw[zB1 h];refine Ex (λy hy=>h1 y (List.mem_cons_of_mem _ hy)) ?_;rcases h2 with h2|⟨y,hy,e⟩
  ·exact .inl h2
  rcases List.mem_cons.1 hy with rfl|hy
  ·exact absurd e h
  exact .inr ⟨y,hy,e⟩
def ND{cs:List Int}{i n:Nat}{d:Int}(hl:cs.length=n)(hi:i<n)(hd:d≠cs.getD i 0):jF cs (cs.set i d) n=[i]:=by
 unfold jF;refine Yr _ i n hi λj hj=>?_;rw[cP _ _ _ _ (by omega)];by_cases e:j=i
 ·subst e;rw[zB0 rfl,decide_eq_true rfl];exact bne_iff_ne.2 λh=>hd h.symm
 rw[zB1 e,decide_eq_false e];exact bne_self_eq_false _
def Ol{cs:List Int}{i n:Nat}{d e:Int}(hl:cs.length=n)(hi:i+1<n)(hd:d≠cs.getD i 0)(he:e≠cs.getD (i+1) 0):jF cs ((cs.set i d).set (i+1) e) n=[i,i+1]:=by
 unfold jF;refine ZR _ i n hi λj hj=>?_;rw[cP _ _ _ _ (by rw[List.length_set];omega),cP _ _ _ _ (by omega)];by_cases h1:j=i+1
 ·subst h1;rw[zB0 rfl,decide_eq_true (show i+1=i+1 from rfl),Bool.or_true];exact bne_iff_ne.2 λh=>he h.symm
 rw[zB1 h1,decide_eq_false h1,Bool.or_false];by_cases h:j=i
 ·subst h;rw[zB0 rfl,decide_eq_true rfl];exact bne_iff_ne.2 λh=>hd h.symm
 rw[zB1 h,decide_eq_false h];exact bne_self_eq_false _
def Wn{cs ds:List Int}{n j:Nat}:j∈jF cs ds n↔j<n∧cs.getD j 0≠ds.getD j 0:=by
 unfold jF;rw[List.mem_filter,List.mem_range,bne_iff_ne]
def Ht{nm:List UInt8}{us:List Pr}(L0:aH nm us=0){n m:Int}(M5:1≤n)(K_:1≤m)(hm2:m≤1099511627776):
  fN (fC us (aG us n) (dR nm us) n) m=fY (aG us n) (aG us m) (jF (aG us n) (aG us m) us.length):=by
 obtain⟨hL,Z9,hf⟩:=iA L0
 have l6:∀x∈us,1≤x.2:=λx hx=>(hf x hx).1;obtain⟨x0,l0,hxl,O0⟩:=eB L0
 have Z0:us≠[]:=by rw[hxl];simp
 have L8:=kg us n (by omega) l6;have hdm:=kg us m (by omega) l6;have hen:=mW us n Z0;have hem:=mW us m Z0;have B':∀ds,oY us ds->evH us ds=m->aG us m=ds:=λds h1 h2=>by rw[<-h2];exact uD us ds h1
 have hv:∀i,i<us.length->(dR nm us).getD i 0=vW us i:=λi hi=>(pD L0 hi).1;clear Z9 hf hxl O0;generalize dR nm us=vs at hv ⊢;generalize aG us m=ds at hdm hem B' ⊢;generalize aG us n=cs at L8 hen ⊢;have hl:=L8.1;have hlm:=hdm.1;have e1:∀i d,i<us.length->evH us (cs.set i d)=n+(d-cs.getD i 0)*vW us i:=λi d hi=>by rw[vQ us cs i d hl hi,hen]
 have e2:∀i d e,i+1<us.length->evH us ((cs.set i d).set (i+1) e)=n+(d-cs.getD i 0)*vW us i+(e-cs.getD (i+1) 0)*vW us (i+1):=λi d e hi=>by
  rw[vQ us (cs.set i d) (i+1) e (by rw[List.length_set];exact hl) hi,e1 i d (by omega),cP _ _ _ _ (by omega),zB1 (by omega)]
 have g1:∀i d,i<us.length->(cs.set i d).getD i 0=d:=λi d hi=>by rw[cP _ _ _ _ (by omega),zB0 rfl]
 have g2:∀i d e,i+1<us.length->((cs.set i d).set (i+1) e).getD i 0=d∧((cs.set i d).set (i+1) e).getD (i+1) 0=e:=λi d e hi=>by
  exact⟨by rw[cP _ _ _ _ (by rw[List.length_set];omega),zB1 (by omega),g1 i d (by omega)],by rw[cP _ _ _ _ (by rw[List.length_set];omega),zB0 rfl]⟩
 have okm:okN m=true:=by unfold okN;rw[decide_eq_true K_,decide_eq_true hm2];rfl
 refine Ex (λx hx E7=>?_) ?_
 ·unfold fC at hx;obtain⟨i,hi,hx⟩:=List.mem_flatMap.1 hx
  rw[List.mem_range]at hi;obtain⟨c0,c1⟩:=L8.2 i hi
  unfold dS at hx;rw[List.mem_append,List.mem_append,eY,eY]at hx;rcases hx with(⟨h1,_,rfl⟩|⟨h1,_,rfl⟩)|hx
  ·replace E7:n-vs.getD i 0=m:=E7;rw[hv i hi]at E7;have hc:=of_decide_eq_true h1;have:=B' (cs.set i (cs.getD i 0-1)) (L8.set hi (by omega) λh=>by have:=c1 h;omega) (by rw[e1 i _ hi,<-E7,show cs.getD i 0-1-cs.getD i 0=-1 by omega,Int.neg_mul,Int.one_mul];omega);subst this;rw[ND hl hi (by omega)];show 1=(if _ then(1:Int)else _);rw[g1 i _ hi,zB0 (by omega)]
  ·replace E7:n+vs.getD i 0=m:=E7;rw[hv i hi]at E7;have hc:=(eF hi).1 h1;have:=B' (cs.set i (cs.getD i 0+1)) (L8.set hi (by omega) hc) (by rw[e1 i _ hi,<-E7,show cs.getD i 0+1-cs.getD i 0=1 by omega,Int.one_mul]);subst this;rw[ND hl hi (by omega)];show 2=(if _ then(1:Int)else _);rw[g1 i _ hi,zB1 (by omega),zB0 rfl]
  by_cases V1:i+1=us.length
  ·rw[zB0 V1]at hx;cases hx
  have R3:i+1<us.length:=by omega
  obtain⟨d0,d1⟩:=L8.2 (i+1) R3
  rw[zB1 V1,List.mem_append,eY,eY]at hx;rcases hx with⟨h1,_,rfl⟩|⟨h1,_,rfl⟩
  ·rw[Bool.and_eq_true,Bool.and_eq_true,beq_iff_eq,decide_eq_true_eq]at h1;obtain⟨⟨h1,h2⟩,h3⟩:=h1
   replace E7:n-cs.getD (i+1) 0*vs.getD (i+1) 0+cs.getD (i+1) 0*vs.getD i 0=m:=E7;rw[hv i hi,hv (i+1) R3]at E7;have:=B' ((cs.set i (cs.getD (i+1) 0)).set (i+1) 0) ((L8.set hi d0 ((eF hi).1 h3)).set R3 (by omega) λh=>by have:=d1 h;omega) (by rw[e2 i _ _ R3,<-E7,h1,Int.sub_zero,Int.zero_sub,Int.neg_mul];omega);subst this;rw[Ol hl R3 (by omega) (by omega)];show 3=(if _ then(if _ then(3:Int)else _)else _);rw[zB0 rfl,(g2 i _ _ R3).1,(g2 i _ _ R3).2,zB0 ⟨rfl,by omega,h1,rfl⟩]
  rw[Bool.and_eq_true,Bool.and_eq_true,beq_iff_eq,decide_eq_true_eq]at h1;obtain⟨⟨h1,h2⟩,h3⟩:=h1
  replace E7:n-cs.getD i 0*vs.getD i 0+cs.getD i 0*vs.getD (i+1) 0=m:=E7;rw[hv i hi,hv (i+1) R3]at E7;have:=B' ((cs.set i 0).set (i+1) (cs.getD i 0)) ((L8.set hi (Int.le_refl 0) λh=>by have:=c1 h;omega).set R3 c0 ((eF R3).1 h3)) (by rw[e2 i _ _ R3,<-E7,h1,Int.sub_zero,Int.zero_sub,Int.neg_mul];omega);subst this;rw[Ol hl R3 (by omega) (by omega)];show 4=(if _ then(if _ then(3:Int)else if _ then 4 else _)else _);rw[zB0 rfl,(g2 i _ _ R3).1,(g2 i _ _ R3).2,zB1 (λh=>by omega),zB0 ⟨rfl,by omega,h1,rfl⟩]
 have md:=@Wn cs ds us.length;have found:∀(i:Nat)(x:Sp),i<us.length->x∈dS us cs vs n i->x.2.2=m->∃x∈fC us cs vs n,x.2.2=m:=λi x hi hx he=>⟨x,List.mem_flatMap.2 ⟨i,List.mem_range.2 hi,hx⟩,he⟩;generalize jF cs ds us.length=D at md ⊢;rcases D with _|⟨a,_|⟨b,_|⟨c,D⟩⟩⟩
 ·exact .inl rfl
 ·have ha:=(md.1 (List.mem_cons_self ..)).1;have hds:ds=cs.set a (ds.getD a 0):=Zb (by rw[List.length_set];omega) λj hj=>by
   rw[cP _ _ _ _ (by omega)];by_cases e:j=a
   ·subst e;rw[zB0 rfl]
   rw[zB1 e];exact Classical.byContradiction λh=>e (List.mem_singleton.1 (md.2 ⟨by omega,λh'=>h h'.symm⟩))
  have hev:m=n+(ds.getD a 0-cs.getD a 0)*vW us a:=by rw[<-e1 a _ ha,<-hds,hem]
  have hda:=hdm.2 a ha;show(if _ then(1:Int)else if _ then 2 else 0)=0∨_
  by_cases k1:cs.getD a 0=ds.getD a 0+1
  ·refine .inr (found a _ ha (List.mem_append_left _ (List.mem_append_left _ (eY.2 ⟨decide_eq_true (by omega),?_,rfl⟩))) ?_)
   ·show okN (n-vs.getD a 0)=true;rw[hv a ha,show n-vW us a=m by rw[hev,k1,show ds.getD a 0-(ds.getD a 0+1)=-1 by omega,Int.neg_mul,Int.one_mul];omega];exact okm
   show n-vs.getD a 0=m;rw[hv a ha,hev,k1,show ds.getD a 0-(ds.getD a 0+1)=-1 by omega,Int.neg_mul,Int.one_mul];omega
  rw[zB1 k1];by_cases k2:cs.getD a 0+1=ds.getD a 0
  ·have hm:n+vs.getD a 0=m:=by rw[hv a ha,hev,<-k2,show cs.getD a 0+1-cs.getD a 0=1 by omega,Int.one_mul]
   exact .inr (found a (2,(us.getD a ([],0)).1,n+vs.getD a 0) ha (List.mem_append_left _ (List.mem_append_right _ (eY.2 ⟨(eF ha).2 λh=>by rw[k2];exact hda.2 h,by show okN (n+vs.getD a 0)=true;rw[hm];exact okm,rfl⟩))) hm)
  rw[zB1 k2];exact .inl rfl
 ·have ha:=(md.1 (List.mem_cons_self ..)).1;have hb:=(md.1 (List.mem_cons_of_mem _ (List.mem_cons_self ..))).1;show(if _ then(if _ then(3:Int)else if _ then 4 else 0)else 0)=0∨_
  by_cases hba:b=a+1
  case neg=>rw[zB1 hba];exact .inl rfl
  subst hba;rw[zB0 rfl];have hds:ds=(cs.set a (ds.getD a 0)).set (a+1) (ds.getD (a+1) 0):=Zb (by rw[List.length_set,List.length_set];omega) λj hj=>by
   rw[cP _ _ _ _ (by rw[List.length_set];omega),cP _ _ _ _ (by omega)];by_cases e:j=a+1
   ·subst e;rw[zB0 rfl]
   rw[zB1 e];by_cases e':j=a
   ·subst e';rw[zB0 rfl]
   rw[zB1 e'];refine Classical.byContradiction λh=>?_;have:=md.2 ⟨show j<us.length by omega,λh'=>h h'.symm⟩;rcases List.mem_cons.1 this with h|h
   ·exact e' h
   exact e (List.mem_singleton.1 h)
  have hev:m=n+(ds.getD a 0-cs.getD a 0)*vW us a+(ds.getD (a+1) 0-cs.getD (a+1) 0)*vW us (a+1):=by rw[<-e2 a _ _ hb,<-hds,hem]
  have hda:=hdm.2 a ha;have hdb:=hdm.2 (a+1) hb;have V1:¬a+1=us.length:=by omega
  by_cases k1:ds.getD (a+1) 0=0∧1≤ds.getD a 0∧cs.getD a 0=0∧cs.getD (a+1) 0=ds.getD a 0
  ·obtain⟨p1,p2,p3,p4⟩:=k1
   have hm:n-cs.getD (a+1) 0*vs.getD (a+1) 0+cs.getD (a+1) 0*vs.getD a 0=m:=by
    rw[hv a ha,hv (a+1) hb,hev,p1,p3,p4,Int.sub_zero,Int.zero_sub,Int.neg_mul];omega
   refine .inr (found a (3,(us.getD a ([],0)).1,n-cs.getD (a+1) 0*vs.getD (a+1) 0+cs.getD (a+1) 0*vs.getD a 0) ha (List.mem_append_right _ ?_) hm);rw[zB1 V1];exact List.mem_append_left _ (eY.2 ⟨by rw[beq_iff_eq.2 p3,decide_eq_true (show 0<cs.getD (a+1) 0 by omega),(eF ha).2 λh=>by rw[p4];exact hda.2 h];rfl,by show okN (n-cs.getD (a+1) 0*vs.getD (a+1) 0+cs.getD (a+1) 0*vs.getD a 0)=true;rw[hm];exact okm,rfl⟩)
  rw[zB1 k1];by_cases k2:ds.getD a 0=0∧1≤ds.getD (a+1) 0∧cs.getD (a+1) 0=0∧cs.getD a 0=ds.getD (a+1) 0
  ·obtain⟨p1,p2,p3,p4⟩:=k2
   have hm:n-cs.getD a 0*vs.getD a 0+cs.getD a 0*vs.getD (a+1) 0=m:=by
    rw[hv a ha,hv (a+1) hb,hev,p1,p3,p4,Int.sub_zero,Int.zero_sub,Int.neg_mul];omega
   refine .inr (found a (4,(us.getD (a+1) ([],0)).1,n-cs.getD a 0*vs.getD a 0+cs.getD a 0*vs.getD (a+1) 0) ha (List.mem_append_right _ ?_) hm);rw[zB1 V1];exact List.mem_append_right _ (eY.2 ⟨by rw[beq_iff_eq.2 p3,decide_eq_true (show 0<cs.getD a 0 by omega),(eF hb).2 λh=>by rw[p4];exact hdb.2 h];rfl,by show okN (n-cs.getD a 0*vs.getD a 0+cs.getD a 0*vs.getD (a+1) 0)=true;rw[hm];exact okm,rfl⟩)
  rw[zB1 k2];exact .inl rfl
 exact .inl rfl
def iU(nm:List UInt8)(us:List Pr)(m n:Int):Int:=
 if(1≤m∧1≤n)∧(m≤1099511627776∧n≤1099511627776)then fY (fB nm us n).1 (fB nm us m).1 (jF (fB nm us n).1 (fB nm us m).1 (fB nm us n).1.length)else 0
def NJ:ao Tryz.prog 105=true:=by kernel_rfl
def Iz:ao Tryz.prog 148=true:=by kernel_rfl
def JA:ao Tryz.prog 104=true:=by kernel_rfl
def Sx:ao Tryz.prog 53=true:=by kernel_rfl
def Jb(H:Hp)(bn:Nat)(n x:Int)(u:AC)(hb:bn<H.nx)(hg:H.get bn=some (.arr [.i .i64 n] 3 0 0))(hu:ltV (.one u) H.nx):
  Con E2 105 [.agg [.i .i64 x,u],.one (.o (.ptr bn 0 0 1))] H (λ_=>False) λr _=>r=.one (.b (x==n)):=by
 refine Con.of rfl λlg=>?_;have hb:bn<(⟨H.t,H.nx,lg⟩:Hp).nx:=hb;have hg:(⟨H.t,H.nx,lg⟩:Hp).get bn=some (.arr [.i .i64 n] 3 0 0):=hg;have hu:ltV (.one u) (⟨H.t,H.nx,lg⟩:Hp).nx:=hu;generalize(⟨H.t,H.nx,lg⟩:Hp)=H at hb hg hu ⊢
 refine C1.body (E:=E2) (nt:=8) (res:=[.tmp 3]) Tryz.func105 rfl rfl rfl rfl rfl λtm z0=>?_;have h0:=z0 0 _ rfl;have h1:=z0 1 _ rfl;clear z0;have q7:bn<H.nx+1:=Nat.lt_succ_of_lt hb;have Y1:∀o,(H.new o).get bn=some (.arr [.i .i64 n] 3 0 0):=λo=>(aS hb).trans hg;refine zW tyF ?_;exact⟨_,_,aj (.b (x==n)) (.inr rfl) qe qp,(Fr.refl _).new _,λ_=>rfl⟩
def Gg(H:Hp)(v:AC)(lr:List Rl)(bn:Nat)(n:Int)(hv:dA H v lr)(hb:bn<H.nx)(hg:H.get bn=some (.arr [.i .i64 n] 3 0 0))(hL:lr.length≤1000000):
  Con E2 148 [.one v,.one (.o (.clo 105 [(bn,0,0,1)]))] H (λ_=>False) λr _=>r=.one (.i .i64 (gO 0 lr n)):=by
 refine Con.of rfl λlg=>?_;have hv:dA ⟨H.t,H.nx,lg⟩ v lr:=hv;have hb:bn<(⟨H.t,H.nx,lg⟩:Hp).nx:=hb;have hg:(⟨H.t,H.nx,lg⟩:Hp).get bn=some (.arr [.i .i64 n] 3 0 0):=hg;generalize(⟨H.t,H.nx,lg⟩:Hp)=H at hv hb hg ⊢
 refine C1.body (E:=E2) (nt:=19) (res:=[.tmp 4]) Tryz.func148 rfl rfl rfl rfl rfl λtm z0=>?_;have h0:=z0 0 _ rfl;have h1:=z0 1 _ rfl;clear z0;have fin:∀(e:Int)(A:aa)(H3:Hp),slot A.tm 4=.one (.i .i64 e)->A.dfr=[]->Gr H H3->e=gO 0 lr n->∃w H4,aC E2 [.tmp 4] (.ret,A,H3)=.ok [(w,H4)]∧Gr H H4∧∀_:List Nat,w=.one (.i .i64 (gO 0 lr n)):=λe A H3 h1 h2 h3 h4=>⟨_,H3,aj (.i .i64 e) (.inr rfl) h2 h1,h3,λ_=>by rw[h4]⟩;generalize G0:gO 0 lr n=r0 at fin;have l1:=hv.len;have l2:=hv.lt;replace G0:Hd _:=G0;refine zW tyF ?_;refine R1.fb λK k1 k2 k3 k4=>?_;refine R1.loop (λk A H1=>∃i:Nat,k=lr.length-i∧i≤lr.length∧Gr H H1∧Hd (gO i (lr.drop i) n=r0)∧slot A.tm 0=.one (v)∧slot A.tm 1=.one ((.o (.clo 105 [(bn,0,0,1)])))∧slot A.tm 7=.one (.i .i64 (lr.length:Int))∧slot A.tm 8=.one (.i .i64 (i:Int))∧A.nt=19∧A.dfr=[]) ?_ lr.length
  ⟨0,rfl,Nat.zero_le _,Fr.refl _,G0,zL⟩
 clear h0 h1 tm l1 l2 G0 k3;rintro k A H1 ⟨i,rfl,hi,g1,hr,t0,t1,t7,t8,A0,B0⟩;have G8:=hv.gr g1;have O':H1.get bn=some (.arr [.i .i64 n] 3 0 0):=by rw[g1.get _ hb zB2];exact hg
 have Z2:bn<H1.nx:=zA0 hb g1.nx;refine zW tyF ?_;refine zI tyF (λhc=>?_) (λhc=>?_)
 ·have C0:i<lr.length:=by omega
  have ex:lr[i]?=some lr[i]:=zB4 C0;have N0:lr.drop i=lr[i]::lr.drop (i+1):=List.drop_eq_getElem_cons C0;have I2:lr.take (i+1)=lr.take i++[lr[i]]:=List.take_succ_eq_append_getElem C0;have E0:lr[i]∈lr:=List.getElem_mem C0;generalize lr[i]=x at ex N0 I2 E0;have B3:=zC0 i (by omega);obtain⟨id,g,off,cells,rfl,hid,B1,K0⟩:=G8.open (by omega)
  obtain⟨u,O0⟩:=K0 i x ex
  obtain⟨X1,y1,y2,y3,y4,y5,y6⟩:=O0
  clear K0;have hr:=hr.out;rw[N0,gO]at hr;replace hr:Hd _:=hr;clear N0 I2;refine zW tyF ?_;refine R1.fb λK2 q1 q2 q3 q4=>?_;refine zW tyF ?_;refine zG (zDd tyF (ixC C0) NJ) λK hK=>?_;refine WE.con (Jb H1 bn n x.1 u Z2 O' X1.lt) λw H2 g2 hw=>?_;subst hw;have g2':=g1.gr g2;by_cases T4:x.1=n
  ·have hr:=hr.out;rw[zB0 T4]at hr;have ce:(x.1==n)=true:=beq_iff_eq.2 T4;replace T4:Hd _:=T4;replace hr:Hd _:=hr;refine zK tyF ?_;exact q4.out _ _ (k4.out _ _ (fin (i) _ _ qp qe (g2') (hr.out)))
  have hr:=hr.out;rw[zB1 T4]at hr;have ce:(x.1==n)=false:=zB5 T4;replace T4:Hd _:=T4;replace hr:Hd _:=hr;refine zK tyF ?_;refine q1.out _ _ ?_;refine zW tyF ?_;exact⟨lr.length-(i+1),by omega,i+1,rfl,C0,g2',hr,zL⟩
 have S1:i=lr.length:=by omega
 have hr:=hr.out;rw[S1,List.drop_length,gO]at hr;replace hr:Hd _:=hr;clear S1;refine zW tyF ?_;refine k2.out _ _ ?_;refine zW tyF ?_;exact fin (-1) _ _ qp qe (g1) (hr.out)
def Hs(H:Hp)(v:AC)(lr:List Rl)(bn:Nat)(n:Int)(hv:dA H v lr)(hb:bn<H.nx)(hg:H.get bn=some (.arr [.i .i64 n] 3 0 0))(hL:lr.length≤1000000):
  Con E2 104 [.one v,.one (.o (.clo 105 [(bn,0,0,1)]))] H (λ_=>False) λr _=>r=.one (.b (decide (0≤gO 0 lr n))):=by
 refine Con.of rfl λlg=>?_;have hv:dA ⟨H.t,H.nx,lg⟩ v lr:=hv;have hb:bn<(⟨H.t,H.nx,lg⟩:Hp).nx:=hb;have hg:(⟨H.t,H.nx,lg⟩:Hp).get bn=some (.arr [.i .i64 n] 3 0 0):=hg;generalize(⟨H.t,H.nx,lg⟩:Hp)=H at hv hb hg ⊢
 refine C1.body (E:=E2) (nt:=9) (res:=[.tmp 4]) Tryz.func104 rfl rfl rfl rfl rfl λtm z0=>?_;have h0:=z0 0 _ rfl;have h1:=z0 1 _ rfl;clear z0;refine zW tyF ?_;refine zG (qA tyF Iz) λK hK=>?_;refine WE.con (Gg H v lr bn n hv hb hg hL) λw H2 g2 hw=>?_;subst hw;refine zK tyF ?_;exact⟨_,_,aj (.b (decide (0≤gO 0 lr n))) (.inr rfl) qe qp,g2,λ_=>rfl⟩
def NU(H:Hp)(a b:AC)(lr:List Rl)(n:Int)(hb:dA H b lr)(ha:ltV (.one a) H.nx)(hL:lr.length≤1000000):
  Con E2 53 [.agg [a,b],.one (.i .i64 n)] H (λ_=>False) λr _=>r=.one (.b (decide (0≤gO 0 lr n))):=by
 refine Con.of rfl λlg=>?_;have hb:dA ⟨H.t,H.nx,lg⟩ b lr:=hb;have ha:ltV (.one a) (⟨H.t,H.nx,lg⟩:Hp).nx:=ha;generalize(⟨H.t,H.nx,lg⟩:Hp)=H at hb ha ⊢
 refine C1.body (E:=E2) (nt:=9) (res:=[.tmp 4]) Tryz.func53 rfl rfl rfl rfl rfl λtm z0=>?_;have h0:=z0 0 _ rfl;have h1:=z0 1 _ rfl;clear z0;have l2:=hb.lt;refine zG tyF λK hK=>?_;refine hK.out _ _ ?_;refine R1.gen (λA1 H1=>Gr H H1∧H.nx+1<H1.nx∧H1.get H.nx=some (.arr [a,b] 26 0 0)∧H1.get (H.nx+1)=some (.arr [.i .i64 n] 3 0 0)∧slot A1.tm 2=.one ((.o (.ptr H.nx 0 0 2)))∧slot A1.tm 3=.one ((.o (.ptr (H.nx+1) 0 0 1)))∧A1.nt=9∧A1.dfr=[])
  ⟨((Fr.refl _).new _).new _,by show H.nx+1<H.nx+1+1;omega,by rw[aS (by show H.nx<H.nx+1;omega)];exact aB rfl,aB rfl,zL⟩ ?_
 clear h0 h1 tm hK K l2;rintro A1 H1 ⟨g1,n1,r1,r2,t2,t3,A0,B0⟩;have n0:H.nx<H1.nx:=by omega
 have hb:=hb.gr g1;refine zG (qA tyF JA) λK hK=>?_;refine WE.con (Hs H1 b lr _ n hb n1 r2 hL) λw H2 g2 hw=>?_;subst hw;refine zK tyF ?_;exact⟨_,_,aj (.b (decide (0≤gO 0 lr n))) (.inr rfl) qe qp,g1.gr g2,λ_=>rfl⟩
def mF(k:Int):Int:=if k=5 then 2 else 1
def vo(L:Lad)(lr:List Rl)(x n m:Int):Int:=
 if iU L.1 L.2 m n≠0 then iU L.1 L.2 m n else if 0≤gO 0 lr x∧n≠m∧1≤m∧m≤1099511627776 then 5 else 0
abbrev Fx:=Int×Int×Int×Int
def fxC(x:Fx):List AC:=[.i .i64 x.1,.i .i64 x.2.1,.i .i64 x.2.2.1,.i .i64 x.2.2.2]
def Nv(x:Fx):(fxC x).length=4:=rfl
def SlF(H:Hp)(v:AC)(l:List Fx):Prop:=SlC H v 4 l.length (l.flatMap fxC)
def SlF.gr{H H':Hp}{v:AC}{l:List Fx}(h:SlF H v l)(hg:Gr H H'):SlF H' v l:=SlC.gr h hg
def SlF.len{H:Hp}{v:AC}{l:List Fx}(h:SlF H v l):cW H 1 (.one v)=.val (.one (.i .i64 (l.length:Int))) H:=SlC.len h
def SlF.lt{H:Hp}{v:AC}{l:List Fx}(h:SlF H v l):ltV (.one v) H.nx:=qj h
def SlF.nil{H:Hp}:SlF H (.o .nilS) []:=⟨by simp,.inl ⟨rfl,rfl⟩⟩
structure FxAt(cells:List AC)(o:Nat)(x:Fx):Prop where
 all:(cells.drop o).take 4=fxC x
 le:o+4≤cells.length
 le1:o+1≤cells.length
 le2:o+1+1≤cells.length
 le3:o+2+1≤cells.length
 le4:o+3+1≤cells.length
 f0:(cells.drop o).headD (.b false)=.i .i64 x.1
 f1:(cells.drop (o+1)).headD (.b false)=.i .i64 x.2.1
 f2:(cells.drop (o+2)).headD (.b false)=.i .i64 x.2.2.1
 f3:(cells.drop (o+3)).headD (.b false)=.i .i64 x.2.2.2
def Ze{cells:List AC}{o:Nat}{a b c d:AC}(h:(cells.drop o).take 4=[a,b,c,d]):(cells.drop o).headD (.b false)=a∧(cells.drop (o+1)).headD (.b false)=b∧(cells.drop (o+2)).headD (.b false)=c∧(cells.drop (o+3)).headD (.b false)=d:=by
 rw[<-List.drop_drop,<-List.drop_drop,<-List.drop_drop];match hd:cells.drop o,h with
 |x0::x1::x2::x3::r,h=>
  simp only[List.take_succ_cons,List.take_zero,List.cons.injEq,and_true]at h;obtain⟨rfl,rfl,rfl,rfl⟩:=h
  exact⟨rfl,rfl,rfl,rfl⟩
def SlF.open{H:Hp}{v:AC}{l:List Fx}(h:SlF H v l)(hn:0<l.length):∃id g off cells,v=.o (.sl id g off l.length 4)∧id<H.nx∧rowOf (H.get id) g=some cells∧∀(i:Nat)(x:Fx),l[i]?=some x->FxAt cells (off+i*4) x:=by
 obtain⟨id,g,off,h1,h2,hr⟩:=SlC.pos h hn
 have E3:=hr;obtain⟨cells,h3,h6,h7⟩:=hr
 refine⟨id,g,off,cells,h1,h2,h3,λi x hx=>?_⟩
 obtain⟨cells',k3,k6,k7⟩:=Rd.at (c:=fxC) Nv E3 hx
 rw[h3]at k3;cases k3
 rw[fxC]at k7;obtain⟨d0,d1,d2,d3⟩:=Ze k7
 exact⟨k7,k6,by omega,by omega,by omega,by omega,d0,d1,d2,d3⟩
def ee(v:List Int)(prev:Option Int)(f:Fx):Bool:=decide (f.1<0)||(decide ((v.length:Int)≤f.1)||((prev.any λp=>decide (f.1≤p))||!(f.2.1==v.getD f.1.toNat 0)))
def qs(ls:List Lad)(lc:List Cl)(lr:List Rl)(f:Fx):Int:=vo (bS (some ls) (oh lc f.1)) lr f.1 f.2.1 f.2.2.1
def fZ(ls:List Lad)(lc:List Cl)(lr:List Rl)(v:List Int):Option Int->Int->List Fx->Int×Int
 |_,t,[]=>(t,0)
 |prev,t,f::l=>if ee v prev f=true then(0,55)else if f.2.2.2=0∨f.2.2.2≠qs ls lc lr f then(0,55)else fZ ls lc lr v (some f.1) (t+mF f.2.2.2) l
def bW(o:Option (List Lad))(p:Pz)(v:List Int)(l:List Fx):Int×Int:=if ep o p v≠0 then(0,ep o p v)else fZ (o.getD []) p.1 p.2 v none 0 l
def mL(l:List Fx):Nat->Option Int
 |0=>none
 |j+1=>(l[j]?).map (·.1)
def Ab{nm:List UInt8}{us:List Pr}(L0:aH nm us=0){n m:Int}(M5:1≤n)(X7:n≤1099511627776)(K_:1≤m)(hm2:m≤1099511627776):fN (fC us (aG us n) (dR nm us) n) m=iU nm us m n:=by
 have e:∀k,1≤k->k≤1099511627776->fB nm us k=(aG us k,0):=λk h1 h2=>by
  unfold fB;rw[zB1 (λh=>h L0),zB0 ⟨by omega,h2⟩]
 unfold iU;rw[zB0 ⟨⟨K_,M5⟩,hm2,X7⟩,e n M5 X7,e m K_ hm2,Ht L0 M5 K_ hm2];show _=fY _ _ (jF _ _ (aG us n).length);rw[iR]
def NT{nm:List UInt8}{us:List Pr}{n m:Int}(h:m<1∨1099511627776<m):iU nm us m n=0:=by
 unfold iU;rw[zB1 (λh'=>by omega)]
def Jm{nm:List UInt8}{us:List Pr}{n:Int}:iU nm us n n=0:=by
 unfold iU;split
 ·have:∀(cs:List Int)(k:Nat),jF cs cs k=[]:=λcs k=>VN _ k λj _=>bne_self_eq_false _;rw[this];rfl
 rfl
def Ub(cs ds:List Int)(D:List Nat):fY cs ds D≠5:=by
 unfold fY;split
 ·split
  ·decide
  split<;>decide
 ·split
  ·split
   ·decide
   split<;>decide
  decide
 decide
def VT{nm:List UInt8}{us:List Pr}{n m:Int}:iU nm us m n≠5:=by
 unfold iU;split
 ·exact Ub _ _ _
 decide
def Pv{L:Lad}{lr:List Rl}{x n m:Int}(h:n=m∨m<1∨1099511627776<m):vo L lr x n m=0:=by
 unfold vo;have e:iU L.1 L.2 m n=0:=by
  rcases h with rfl|h
  ·exact Jm
  exact NT h
 rw[e,zB1 (λh=>h rfl),zB1 (λh'=>by omega)]
def UJ:ao Tryz.prog 25=true:=by kernel_rfl
def Pq(H:Hp)(k a b w fx:AC)(ls:List Lad)(lc:List Cl)(lr:List Rl)(v:List Int)(l:List Fx)(hk:bF H k (some ls))(hL:∀x∈ls,x.2.length≤1000000)(ha:dH H a lc)(hb:dA H b lr)(hC:lc.length≤64)(hR:lr.length≤1000000)(I1:v.length=lc.length)(hvr:∀n∈v,1≤n∧n≤1099511627776)
  (L0:∀y∈lc,aH (bS (some ls) y.2.2.1).1 (bS (some ls) y.2.2.1).2=0) (hw:SlI H w v) (hf:SlF H fx l) (hF:l.length≤4398046511104):
  Con E2 25 [.one k,.agg [a,b],.one w,.one fx] H (λ_=>False) λr _=>r=.tup [(false,[.i .i64 (fZ ls lc lr v none 0 l).1]),(false,[.i .i64 (fZ ls lc lr v none 0 l).2])]:=by
 refine Con.of rfl λlg=>?_;have hk:bF ⟨H.t,H.nx,lg⟩ k (some ls):=bF.same (H:=H) rfl rfl hk;have ha:dH ⟨H.t,H.nx,lg⟩ a lc:=ha;have hb:dA ⟨H.t,H.nx,lg⟩ b lr:=hb;have hw:SlI ⟨H.t,H.nx,lg⟩ w v:=hw;have hf:SlF ⟨H.t,H.nx,lg⟩ fx l:=hf;generalize(⟨H.t,H.nx,lg⟩:Hp)=H at hk ha hb hw hf ⊢
 refine C1.body (E:=E2) (nt:=115) (res:=[.tmp 8,.tmp 9]) Tryz.func25 rfl rfl rfl rfl rfl λtm z0=>?_;have h0:=z0 0 _ rfl;have h1:=z0 1 _ rfl;have h2:=z0 2 _ rfl;have h3:=z0 3 _ rfl;clear z0;generalize J':fZ ls lc lr v none 0 l=q0;have fin:∀(v w:Int)(A:aa)(H3:Hp),slot A.tm 8=.one (.i .i64 v)->slot A.tm 9=.one (.i .i64 w)->A.dfr=[]->Gr H H3->(v,w)=q0->∃w H4,aC E2 [.tmp 8,.tmp 9] (.ret,A,H3)=.ok [(w,H4)]∧Gr H H4∧∀_:List Nat,w=.tup [(false,[.i .i64 (q0).1]),(false,[.i .i64 (q0).2])]:=λv w A H3 h1 h2 hd hg hv=>⟨_,H3,aZ (.i .i64 v) (.i .i64 w) (.inr rfl) hd h1 h2,hg,λ_=>by rw[<-hv]⟩;generalize G0:q0=r0 at fin;rw[<-J']at G0;clear J';replace G0:Hd _:=G0;replace I1:Hd _:=I1;refine zG tyF λK hK=>?_;refine hK.out _ _ ?_;refine R1.gen (λA1 H1=>Gr H H1∧H.nx<H1.nx∧H1.get H.nx=some (.arr [a,b] 26 0 0)∧slot A1.tm 0=.one (k)∧slot A1.tm 2=.one (w)∧slot A1.tm 3=.one (fx)∧slot A1.tm 5=.one ((.o (.ptr H.nx 0 0 2)))∧A1.nt=115∧A1.dfr=[]) ⟨(Fr.refl _).new _,zA6 _,aB rfl,zL⟩ ?_;rintro A1 H1 ⟨g1,m1,rx,t0,t2,t3,t5,A0,B0⟩;clear h0 h1 h2 h3 tm hK K;have hk:=hk.gr g1;have ha:=ha.gr g1;have hb:=hb.gr g1;have hw:=hw.gr g1;have hf:=hf.gr g1;obtain⟨N,hN⟩:∃N,N=H.nx:=⟨_,rfl⟩
 rw[<-hN]at m1 rx t5;clear hN;have l1:=hf.len;have l2:=hf.lt;refine zW tyF ?_;refine R1.fb λK k1 k2 k3 k4=>?_;refine R1.loop (λz A H3=>∃(i:Nat)(tot:Int),z=l.length-i∧i≤l.length∧0≤tot∧tot≤2*(i:Int)∧Gr H1 H3∧Hd (fZ ls lc lr v (mL l i) tot (l.drop i)=r0)∧slot A.tm 0=.one (k)∧slot A.tm 2=.one (w)∧slot A.tm 3=.one (fx)∧slot A.tm 5=.one ((.o (.ptr N 0 0 2)))∧slot A.tm 10=.one (.i .i64 (tot:Int))∧slot A.tm 17=.one (fx)∧slot A.tm 18=.one (.i .i64 (l.length:Int))∧slot A.tm 19=.one (.i .i64 (i:Int))∧A.nt=115∧A.dfr=[]) ?_ l.length
  ⟨0,0,rfl,Nat.zero_le _,Int.le_refl _,by omega,Fr.refl _,G0,zL⟩
 clear t0 t2 t3 t5 A0 B0 A1 G0 k3 l1 l2;rintro z A H3 ⟨i,tot,rfl,hi,ht0,ht1,g3,hr,t0,t2,t3,t5,t10,t17,t18,t19,A0,B0⟩;have l_:=hf.gr g3;refine zW tyF ?_;refine zI tyF (λhc=>?_) (λhc=>?_)
 ·have C0:i<l.length:=by omega
  have ex:=zB4 C0;have N0:=zC1 C0;have I2:=zC2 C0;have E0:l[i]∈l:=List.getElem_mem C0;generalize l[i]=x at ex N0 I2 E0;have B3:=zC0 i (by omega);obtain⟨id,g,off,cells,rfl,hid,B1,K0⟩:=l_.open (by omega)
  have O0:=K0 i x ex;have y1:=O0.all;have y2:=O0.le;rw[fxC]at y1;clear O0 E0 I2;have M3:=hr.out;rw[N0,fZ]at M3;replace M3:Hd _:=M3;clear N0 hr;refine zW tyF ?_;refine R1.fb λK2 q1 q2 q3 q4=>?_;have rx:=(g3.get _ m1 zB2).trans rx;have m1:=zA0 m1 g3.nx;refine zG (qA tyF (ixC C0)) λK3 P6=>?_;refine P6.out _ _ ?_;obtain⟨x1,x2,x3,x4⟩:=x
  replace y1:(cells.drop (off+i*4)).take 4=[.i .i64 x1,.i .i64 x2,.i .i64 x3,.i .i64 x4]:=y1;refine R1.gen (λA4 H4=>Gr H3 H4∧H3.nx<H4.nx∧H4.get H3.nx=some (.arr [.i .i64 x1,.i .i64 x2,.i .i64 x3,.i .i64 x4] 80 0 0)∧slot A4.tm 0=.one (k)∧slot A4.tm 2=.one (w)∧slot A4.tm 3=.one ((.o (.sl id g off l.length 4)))∧slot A4.tm 5=.one ((.o (.ptr N 0 0 2)))∧slot A4.tm 10=.one (.i .i64 (tot:Int))∧slot A4.tm 11=.one (.i .i64 (i:Int))∧slot A4.tm 12=.one ((.o (.ptr H3.nx 0 0 4)))∧slot A4.tm 17=.one ((.o (.sl id g off l.length 4)))∧slot A4.tm 18=.one (.i .i64 (l.length:Int))∧slot A4.tm 19=.one (.i .i64 (i:Int))∧A4.nt=115∧A4.dfr=[])
   ⟨((Fr.refl _).new _).mod _ (.inl (zA1 _)),zA6 _,an rfl,zL⟩ ?_
  clear t0 t2 t3 t5 t10 t17 t18 t19 A0 B0 A y1 y2 P6 K3;rintro A H4 ⟨g4,mM,rM,t0,t2,t3,t5,t10,t11,t12,t17,t18,t19,A0,B0⟩;obtain⟨M,hM⟩:∃M,M=H3.nx:=⟨_,rfl⟩
  rw[<-hM]at mM rM t12;clear hM;have rx:=(g4.get _ m1 zB2).trans rx;have m1:=zA0 m1 g4.nx;have hgr4:rowOf (H4.get id) g=some cells:=by rw[g4.get _ hid zB2];exact B1
  have Y6:id<H4.nx:=zA0 hid g4.nx;have g14:=g3.gr g4;have f_:=hw.gr g14;clear B1 hid l_ g4 g3;replace ex:Hd _:=ex;repeat refine R1.aF ?_
  refine R1.s_h (by kernel_rfl) λK4 hK4=>?_;have key:Hd (∀(bb:Bool)(A:aa),(ee v (mL l i) (x1,x2,x3,x4)||((x3==x2)||(decide (x3<1)||decide (1099511627776<x3))))=bb->slot A.tm 75=.one (.b bb)∧slot A.tm 0=.one (k)∧slot A.tm 2=.one (w)∧slot A.tm 3=.one ((.o (.sl id g off l.length 4)))∧slot A.tm 5=.one ((.o (.ptr N 0 0 2)))∧slot A.tm 10=.one (.i .i64 (tot:Int))∧slot A.tm 11=.one (.i .i64 (i:Int))∧slot A.tm 12=.one ((.o (.ptr M 0 0 4)))∧slot A.tm 17=.one ((.o (.sl id g off l.length 4)))∧slot A.tm 18=.one (.i .i64 (l.length:Int))∧slot A.tm 19=.one (.i .i64 (i:Int))∧A.nt=115∧A.dfr=[]->K4 A H4):=by
   clear t0 t2 t3 t5 t10 t11 t12 t17 t18 t19 A0 B0 A;rintro bb A q_ ⟨t75,t0,t2,t3,t5,t10,t11,t12,t17,t18,t19,A0,B0⟩;refine hK4.out _ _ ?_;clear hK4 K4;cases bb with
   |true=>
    have W5:(0,55)=r0:=by
     rw[<-M3.out];by_cases Z2:ee v (mL l i) (x1,x2,x3,x4)=true
     ·rw[zB0 Z2]
     rw[zB1 Z2];rw[Bool.not_eq_true]at Z2;rw[Z2,Bool.false_or,Bool.or_eq_true,Bool.or_eq_true,beq_iff_eq,decide_eq_true_eq,decide_eq_true_eq]at q_;have e:qs ls lc lr (x1,x2,x3,x4)=0:=Pv (q_.imp (λh=>h.symm) λh=>h);rw[e];exact(zB0 (Decidable.em (x4=0))).symm
    replace W5:Hd _:=W5;clear q_;refine zW tyF ?_;exact q4.out _ _ (k4.out _ _ (fin (0) (55) _ _ qp qp qe (g1.gr g14) (W5.out)))
   |false=>
    have hb3:ee v (mL l i) (x1,x2,x3,x4)=false∧x3≠x2∧¬x3<1∧¬1099511627776<x3:=by
     rw[Bool.or_eq_false_iff,Bool.or_eq_false_iff,Bool.or_eq_false_iff,beq_eq_false_iff_ne,decide_eq_false_iff_not,decide_eq_false_iff_not]at q_;exact q_
    obtain⟨Z2,Z0,K_,hm2⟩:=hb3
    clear q_;have W5:=M3.out;rw[zB1 (by rw[Z2];decide)]at W5;have B_:=Z2;unfold ee at B_;rw[Bool.or_eq_false_iff,Bool.or_eq_false_iff,Bool.or_eq_false_iff,decide_eq_false_iff_not,decide_eq_false_iff_not,Bool.not_eq_false',beq_iff_eq]at B_;have X2:0≤x1:=by have:=B_.1;omega
    have e_:x1<v.length:=by have:=B_.2.1;omega
    have O0:x1<lc.length:=by have:=I1.out;omega
    have j_:1≤x2∧x2≤1099511627776:=by
     have h:=B_.2.2.2;rw[show(x1,x2,x3,x4).2.1=x2 from rfl,show(x1,x2,x3,x4).1=x1 from rfl,List.getD_eq_getElem?_getD,zB4 (by omega:x1.toNat<v.length)]at h;rw[h];exact hvr _ (List.getElem_mem _)
    clear Z2 B_ e_;obtain⟨l6,P'⟩:=j_
    have hlt1:x1.toNat<lc.length:=by omega
    have hy:lc[x1.toNat]?=some lc[x1.toNat]:=zB4 hlt1;have O_:=L0 _ (List.getElem_mem hlt1);have hkf:qs ls lc lr (x1,x2,x3,x4)=vo (bS (some ls) lc[x1.toNat].2.2.1) lr x1 x2 x3:=by
     unfold qs oh;show vo (bS (some ls) ((lc[x1.toNat]?).elim [] λx=>x.2.2.1)) lr x1 x2 x3=_;rw[hy];rfl
    generalize lc[x1.toNat]=y at hy O_ hkf;have hm3:1≤x3:=by omega
    have hm4:x3≤1099511627776:=by omega
    have hh:(0≤gO 0 lr x1∧x2≠x3∧1≤x3∧x3≤1099511627776)=(0≤gO 0 lr x1):=propext ⟨λh=>h.1,λh=>⟨h,λh'=>Z0 h'.symm,hm3,hm4⟩⟩;unfold vo at hkf;simp only[hh]at hkf;rw[hkf]at W5;have he5:=@VT (bS (some ls) y.2.2.1).1 (bS (some ls) y.2.2.1).2 x2 x3;have P8:=Ab O_ l6 P' hm3 hm4;have hsb:=Ck O_ (by omega) P';clear hh hkf K_ hm2 Z0 hlt1;replace W5:Hd _:=W5;replace O_:Hd _:=O_;replace P8:Hd _:=P8;replace he5:Hd _:=he5;replace hsb:Hd _:=hsb;replace l6:Hd _:=l6;replace P':Hd _:=P';replace hm3:Hd _:=hm3;replace hm4:Hd _:=hm4;replace hy:Hd _:=hy;have hla:=(ha.gr g14).lt;obtain⟨idc,gc,oc,cc,rfl,hidc,hgrc,hatc⟩:=(ha.gr g14).open (by omega)
    obtain⟨p,q,hx⟩:=hatc x1.toNat y hy.out
    have y1:=hx.f3;have y2:=hx.le3;clear hatc hx;have hb4:=hb.gr g14;refine qX t75 ?_;refine R1.bA ?_;repeat refine R1.aF ?_
    refine zG (zDd tyF (ixI X2 O0) nM) λK5 P1=>?_;refine WE.con (lh H4 k (some ls) y.2.2.1 (hk.gr g14) (λls' h=>by cases h;exact hL)) λw' H5 g5⟨c,Y3,hc,J1⟩=>?_;subst Y3;obtain⟨u,rfl,hu⟩:=hc.of
    clear J1 hc;have lu:=hu.lt;have rx:=(g5.get _ m1 zB2).trans rx;have m1:=zA0 m1 g5.nx;have rM:=(g5.get _ mM zB2).trans rM;have mM:=zA0 mM g5.nx;refine zS tyF ?_;refine P1.out _ _ ?_;refine R1.gen (λA5 H6=>Gr H5 H6∧H5.nx<H6.nx∧H6.get H5.nx=some (.arr [.o (.str (bS (some ls) y.2.2.1).1),u] 51 0 0)∧slot A5.tm 0=.one (k)∧slot A5.tm 2=.one (w)∧slot A5.tm 3=.one ((.o (.sl id g off l.length 4)))∧slot A5.tm 5=.one ((.o (.ptr N 0 0 2)))∧slot A5.tm 10=.one (.i .i64 (tot:Int))∧slot A5.tm 11=.one (.i .i64 (i:Int))∧slot A5.tm 12=.one ((.o (.ptr M 0 0 4)))∧slot A5.tm 13=.one ((.o (.ptr H5.nx 0 0 2)))∧slot A5.tm 17=.one ((.o (.sl id g off l.length 4)))∧slot A5.tm 18=.one (.i .i64 (l.length:Int))∧slot A5.tm 19=.one (.i .i64 (i:Int))∧A5.nt=115∧A5.dfr=[])
     ⟨((Fr.refl _).new _).mod _ (.inl (zA1 _)),zA6 _,an rfl,zL⟩ ?_
    clear t0 t2 t3 t5 t10 t11 t12 t17 t18 t19 t75 A0 B0 A P1 K5 y1 y2 lu;rintro A H6 ⟨g6,n6,rl,t0,t2,t3,t5,t10,t11,t12,t13,t17,t18,t19,A0,B0⟩;obtain⟨L,hLn⟩:∃L,L=H5.nx:=⟨_,rfl⟩
    rw[<-hLn]at n6 rl t13;clear hLn;have rx:=(g6.get _ m1 zB2).trans rx;have m1:=zA0 m1 g6.nx;have rM:=(g6.get _ mM zB2).trans rM;have mM:=zA0 mM g6.nx;have A6:=hu.gr g6;have lu:=A6.lt;have g46:=g5.gr g6;have hb6:=hb4.gr g46;clear hgr4 Y6 hgrc hidc hu f_;refine zG (qA tyF tO) λK6 hK6=>?_;refine WE.con (ES H6 (bS (some ls) y.2.2.1).1 u (bS (some ls) y.2.2.1).2 x3 x2 A6 O_.out l6.out P'.out hsb.out) λw' H7 g7 hq=>?_;rw[P8.out]at hq;subst hq;clear P8 O_ hsb A6;generalize iU (bS (some ls) y.2.2.1).1 (bS (some ls) y.2.2.1).2 x3 x2=e at W5 he5 ⊢;have rx:=(g7.get _ m1 zB2).trans rx;have m1:=zA0 m1 g7.nx;have rM:=(g7.get _ mM zB2).trans rM;have mM:=zA0 mM g7.nx;have hb7:=hb6.gr g7;have g47:=g46.gr g7;have gg:=g1.gr (g14.gr g47);have hlt4:=C0;by_cases c0:e=0
    case neg=>
     have d0:(e==0)=false:=zB5 c0;have z8:=W5.out;rw[zB0 c0]at z8;clear W5;by_cases c6:e=x4
     case neg=>
      rw[zB0 (.inr (λh=>c6 h.symm))]at z8;have d6:(e==x4)=false:=zB5 c6;replace z8:Hd _:=z8;replace c6:Hd _:=c6;replace c0:Hd _:=c0;refine zK tyF ?_;exact q4.out _ _ (k4.out _ _ (fin (0) (55) _ _ qp qp qe (gg) (z8.out)))
     rw[zB1 (λh=>h.elim (λh=>c0 (c6.trans h)) (λh=>h c6.symm))]at z8;have V7:mF x4=1:=by unfold mF;rw[zB1 (λh=>he5.out (c6.trans h))]
     rw[V7]at z8;have d6:(e==x4)=true:=beq_iff_eq.2 c6;replace z8:Hd _:=z8;replace V7:Hd _:=V7;replace c6:Hd _:=c6;replace c0:Hd _:=c0;have hwt:IntKind.i64.wrap (tot+1)=tot+1:=aP (by omega) (by omega);refine zK tyF ?_;refine q1.out _ _ ?_;refine zW tyF ?_;exact⟨l.length-(i+1),by omega,i+1,tot+1,rfl,C0,by omega,by omega,g14.gr g47,by rw[mL,ex.out];exact z8,zL⟩
    subst c0;have z8:=W5.out;rw[zB1 (λh:(0:Int)≠0=>h rfl)]at z8;clear W5;replace z8:Hd _:=z8;refine zK tyF ?_;refine zG (qA tyF Sx) λK7 hK7=>?_;refine WE.con (NU H7 _ b lr x1 hb7 (λj hj=>zA0 (hla j hj) g47.nx) hR) λw' H8 g8 hq=>?_;have rx:=(g8.get _ m1 zB2).trans rx;have m1:=zA0 m1 g8.nx;have rM:=(g8.get _ mM zB2).trans rM;have mM:=zA0 mM g8.nx;have gg:=gg.gr g8;have I':=z8.out;clear z8;by_cases cs:0≤gO 0 lr x1
    case neg=>
     rw[decide_eq_false cs]at hq;subst hq;rw[zB1 cs,zB0 (Decidable.em (x4=0))]at I';replace I':Hd _:=I';replace cs:Hd _:=cs;refine zK tyF ?_;exact q4.out _ _ (k4.out _ _ (fin (0) (55) _ _ qp qp qe (gg) (I'.out)))
    rw[decide_eq_true cs]at hq;subst hq;rw[zB0 cs]at I';replace cs:Hd _:=cs;by_cases c6:x4=5
    case neg=>
     rw[zB0 (.inr c6)]at I';have d6:((5:Int)==x4)=false:=zB5 (λh=>c6 h.symm);replace I':Hd _:=I';replace c6:Hd _:=c6;refine zK tyF ?_;exact q4.out _ _ (k4.out _ _ (fin (0) (55) _ _ qp qp qe (gg) (I'.out)))
    rw[zB1 (λh=>h.elim (λh=>absurd (c6.symm.trans h) (by decide)) (λh=>h c6))]at I';have V7:mF x4=2:=by unfold mF;rw[zB0 c6]
    rw[V7]at I';have d6:((5:Int)==x4)=true:=beq_iff_eq.2 c6.symm;replace I':Hd _:=I';replace V7:Hd _:=V7;replace c6:Hd _:=c6;have hwt:IntKind.i64.wrap (tot+2)=tot+2:=aP (by omega) (by omega);refine zK tyF ?_;refine q1.out _ _ ?_;refine zW tyF ?_;exact⟨l.length-(i+1),by omega,i+1,tot+2,rfl,C0,by omega,by omega,g14.gr (g47.gr g8),by rw[mL,ex.out];exact I',zL⟩
  clear hK4;have lw:=f_.len;have lw2:=f_.lt;by_cases c0:x1<0
  ·refine zS tyF ?_;exact key.out true _ (by unfold ee;rw[decide_eq_true c0,Bool.true_or,Bool.true_or]) zL
  by_cases c1:(v.length:Int)≤x1
  ·refine zS tyF ?_;exact key.out true _ (by unfold ee;rw[decide_eq_true c1,Bool.true_or,Bool.or_true,Bool.true_or]) zL
  have X2:0≤x1:=by omega
  have e_:x1<v.length:=by omega
  have m6:ee v (mL l i) (x1,x2,x3,x4)=(((mL l i).any λp=>decide (x1≤p))||!(x2==v.getD x1.toNat 0)):=by
   unfold ee;rw[decide_eq_false c0,decide_eq_false c1,Bool.false_or,Bool.false_or]
  replace m6:Hd _:=m6;obtain⟨idw,gw,ow,cw,rfl,hidw,hgw,hatw⟩:=f_.open (by omega)
  obtain⟨z1,z2⟩:=hatw x1.toNat (v.getD x1.toNat 0) (by rw[List.getD_eq_getElem?_getD,zB4 (by omega)];rfl)
  clear hatw lw lw2 f_;generalize v.getD x1.toNat 0=vv at z1 m6;by_cases l5:i=0
  ·have hp:mL l i=none:=by rw[l5];rfl
   have hgt:¬0<(i:Int):=by omega
   replace hp:Hd _:=hp;replace l5:Hd _:=l5;by_cases c3:x2=vv
   case neg=>
    have d3:(x2==vv)=false:=zB5 c3;replace c3:Hd _:=c3;refine zS (qA tyF (ixI X2 e_)) ?_;exact key.out true _ (by rw[m6.out,hp.out,d3];simp) zL
   have d3:(x2==vv)=true:=beq_iff_eq.2 c3;replace c3:Hd _:=c3;by_cases c4:x3=x2
   ·have d4:(x3==x2)=true:=beq_iff_eq.2 c4;replace c4:Hd _:=c4;refine zS (qA tyF (ixI X2 e_)) ?_;exact key.out true _ (by rw[d4];simp) zL
   have d4:(x3==x2)=false:=zB5 c4;replace c4:Hd _:=c4;by_cases c5:x3<1
   ·refine zS (qA tyF (ixI X2 e_)) ?_;exact key.out true _ (by rw[decide_eq_true c5];simp) zL
   refine zS (qA tyF (ixI X2 e_)) ?_;exact key.out (decide (1099511627776<x3)) _ (by rw[m6.out,hp.out,d3,d4,decide_eq_false c5];simp) zL
  obtain⟨j,hj⟩:∃j,i=j+1:=⟨i-1,by omega⟩
  have C8:j<l.length:=by omega
  have hgt:0<(i:Int):=by omega
  have U0:IntKind.i64.wrap ((i:Int)-1)=(j:Int):=by rw[aP (by omega) (by omega)];omega
  have hz:=K0 j l[j] (zB4 C8);have w1:=hz.f0;have w2:=hz.le1;have hp:mL l i=some l[j].1:=by rw[hj,mL,zB4 C8];rfl
  generalize l[j].1=zz at w1 hp;clear hz K0;replace hp:Hd _:=hp;replace hj:Hd _:=hj;by_cases c2:x1≤zz
  ·refine zS (zDd tyF (ixC C8) (ixI X2 e_)) ?_;exact key.out true _ (by rw[m6.out,hp.out];show((decide (x1≤zz)||_)||_)=true;rw[decide_eq_true c2];rfl) zL
  by_cases c3:x2=vv
  case neg=>
   have d3:(x2==vv)=false:=zB5 c3;replace c3:Hd _:=c3;refine zS (zDd tyF (ixC C8) (ixI X2 e_)) ?_;exact key.out true _ (by rw[m6.out,hp.out,d3];simp) zL
  have d3:(x2==vv)=true:=beq_iff_eq.2 c3;replace c3:Hd _:=c3;by_cases c4:x3=x2
  ·have d4:(x3==x2)=true:=beq_iff_eq.2 c4;replace c4:Hd _:=c4;refine zS (zDd tyF (ixC C8) (ixI X2 e_)) ?_;exact key.out true _ (by rw[d4];simp) zL
  have d4:(x3==x2)=false:=zB5 c4;replace c4:Hd _:=c4;by_cases c5:x3<1
  ·refine zS (zDd tyF (ixC C8) (ixI X2 e_)) ?_;exact key.out true _ (by rw[decide_eq_true c5];simp) zL
  refine zS (zDd tyF (ixC C8) (ixI X2 e_)) ?_;exact key.out (decide (1099511627776<x3)) _ (by rw[m6.out,hp.out,d3,d4,decide_eq_false c5];simp;omega) zL
 have S1:i=l.length:=by omega
 have M3:=hr.out;rw[S1,List.drop_length,fZ]at M3;replace M3:Hd _:=M3;clear S1;refine zW tyF ?_;refine k2.out _ _ ?_;refine zW tyF ?_;exact fin (tot) (0) _ _ qp qp qe (g1.gr g3) (M3.out)
def zm:ao Tryz.prog 26=true:=by kernel_rfl
def Bv:ao Tryz.prog 8=true:=by kernel_rfl
def Es:Tryz.prog.underlying 27=some (.slice 3):=by kernel_rfl
def Xb:∀z:List AC,jA z 0=[]:=λz=>rfl
def HO:aR Tryz.prog 27=1:=by kernel_rfl
def Zo:=Lv HO Es
def CJ(H:Hp)(v:AC)(l:List Int)(r:Option Nat):Prop:=dg H v 3 1 l.length (l.map (AC.i .i64)) r
def CJ.slI{H:Hp}{v:AC}{l:List Int}{r:Option Nat}(h:CJ H v l r):SlI H v l:=by
 have:=dg.slc h;unfold SlI;rw[Kw];exact this
def SlI.slc{H:Hp}{v:AC}{l:List Int}(h:SlI H v l):SlC H v 1 l.length (l.map (AC.i .i64)):=by
 rw[<-Kw];exact h
def vH(H:Hp)(v:AC)(l:List Int)(hv:SlI H v l)(hL:l.length*8≤140737488355328):
  Con E2 26 [.one v] H (λ_=>False) λr H'=>∃v' q,r=.one v'∧CJ H' v' l q∧∀i,q=some i->H.nx≤i:=by
 refine Con.of rfl λlg=>?_;have hv:SlI ⟨H.t,H.nx,lg⟩ v l:=hv;have e0:H.nx=(⟨H.t,H.nx,lg⟩:Hp).nx:=rfl;rw[e0];clear e0;generalize(⟨H.t,H.nx,lg⟩:Hp)=H at hv ⊢
 refine C1.body (E:=E2) (nt:=8) (res:=[.tmp 2]) Tryz.func26 rfl rfl rfl rfl rfl λtm z0=>?_;have h0:=z0 0 _ rfl;clear z0;obtain⟨z,hz,B2⟩:=Ct
 have Z3:=hv.slc;have C0:=hv.lt;rcases id Z3 with⟨hc,⟨rfl,J2⟩|⟨id,g,off,rfl,hid,hr⟩⟩
 ·have hl:l=[]:=List.eq_nil_of_length_eq_zero J2;subst hl;clear hz B2 z Z3 hc J2 hv;refine zW (qA tyF Zo) ?_;exact⟨_,_,aj (.o .nilS) (.inr rfl) qe qp,Fr.refl _,λ_=>⟨_,none,rfl,.inl ⟨rfl,rfl,rfl,rfl⟩,λi h=>by cases h⟩⟩
 obtain⟨v',H',Q2,ho,hf⟩:=yT (P:=Tryz.prog) (H:=H.new (.arr [] 3 0 0)) (t:=27) (id:=H.nx) er sB hz B2 (by decide) (aB rfl) (zA6 _) (Z3.gr ((Fr.refl _).new _)) (by omega)
 have hg:Gr H H':=((Fr.refl _).new _).then hf λi h=>.inl (by omega);have D2:=ho.lt;clear hz B2 z hc;replace hv:Hd _:=hv;replace Z3:Hd _:=Z3;replace hr:Hd _:=hr;replace hf:Hd _:=hf;refine zW (zDd tyF Zo Xb) ?_;exact⟨_,_,aj v' (.inr rfl) qe qp,hg,λ_=>⟨v',some H.nx,rfl,ho,λi h=>by cases h;exact zA1 _⟩⟩
def Vj{ls l:List Lad}(h:bkO ls=some l):∀x∈l,aH x.1 x.2=0:=by
 unfold bkO at h;by_cases hc:kR ls=0
 ·rw[zB0 hc]at h;cases h;unfold kR at hc;by_cases hn:(32:Int)<ls.length
  ·rw[zB0 hn]at hc;cases hc
  rw[zB1 hn]at hc;exact CH [] ls hc
 rw[zB1 hc]at h;cases h
def sD{ls:List Lad}{s:List UInt8}(h:oe (some ls) s=0):bS (some ls) s∈ls:=by
 rw[jU]at h;cases hi:gN 0 ls s with
 |none=>rw[hi]at h;cases h
 |some i=>
  obtain⟨x,hx,_⟩:=IJ hi
  have e:bS (some ls) s=x:=by unfold bS;simp only[hi,Option.elim_some];rw[List.getD_eq_getElem?_getD,hx];rfl
  rw[e];exact List.mem_of_getElem? hx
def wP{o:Option (List Lad)}{p:Pz}{v:List Int}(h:ep o p v=0):∀n∈v,1≤n∧n≤1099511627776:=by
 unfold ep at h;by_cases c0:jl o p≠0
 ·rw[zB0 c0]at h;exact absurd h c0
 rw[zB1 c0]at h;cases hv:sy p.1 v with
 |false=>rw[zB0 hv]at h;cases h
 |true=>
  unfold sy at hv;rw[Bool.and_eq_true]at hv;intro n hn;have h2:v.any jf=false:=by
   cases hb:v.any jf with
   |false=>rfl
   |true=>rw[hb]at hv;exact absurd hv.2 (by decide)
  have h3:jf n=false:=by
   cases hb:jf n with
   |false=>rfl
   |true=>rw[List.any_eq_true.2 ⟨n,hn,hb⟩]at h2;cases h2
  unfold jf at h3;rw[Bool.or_eq_false_iff,decide_eq_false_iff_not,decide_eq_false_iff_not]at h3;omega
def uF(H:Hp)(k a b w fx:AC)(o:Option (List Lad))(p:Pz)(v:List Int)(l:List Fx)(hk:bF H k o)(hL:∀ls,o=some ls->∀x∈ls,x.2.length≤1000000)(L0:∀ls,o=some ls->∀x∈ls,aH x.1 x.2=0)(ha:dH H a p.1)(hb:dA H b p.2)(hB:PzB p)(hw:SlI H w v)(hV:v.length≤4611686018427387904)(hf:SlF H fx l)(hF:l.length≤4398046511104):
  Con E2 8 [.one k,.agg [a,b],.one w,.one fx] H (λ_=>False) λr _=>r=.tup [(false,[.i .i64 (bW o p v l).1]),(false,[.i .i64 (bW o p v l).2])]:=by
 refine Con.of rfl λlg=>?_;have hk:bF ⟨H.t,H.nx,lg⟩ k o:=bF.same (H:=H) rfl rfl hk;have ha:dH ⟨H.t,H.nx,lg⟩ a p.1:=ha;have hb:dA ⟨H.t,H.nx,lg⟩ b p.2:=hb;have hw:SlI ⟨H.t,H.nx,lg⟩ w v:=hw;have hf:SlF ⟨H.t,H.nx,lg⟩ fx l:=hf;generalize(⟨H.t,H.nx,lg⟩:Hp)=H at hk ha hb hw hf ⊢
 refine C1.body (E:=E2) (nt:=25) (res:=[.tmp 8,.tmp 9]) Tryz.func8 rfl rfl rfl rfl rfl λtm z0=>?_;have h0:=z0 0 _ rfl;have h1:=z0 1 _ rfl;have h2:=z0 2 _ rfl;have h3:=z0 3 _ rfl;clear z0;generalize J':bW o p v l=q0;have fin:∀(v w:Int)(A:aa)(H3:Hp),slot A.tm 8=.one (.i .i64 v)->slot A.tm 9=.one (.i .i64 w)->A.dfr=[]->Gr H H3->(v,w)=q0->∃w H4,aC E2 [.tmp 8,.tmp 9] (.ret,A,H3)=.ok [(w,H4)]∧Gr H H4∧∀_:List Nat,w=.tup [(false,[.i .i64 (q0).1]),(false,[.i .i64 (q0).2])]:=λv w A H3 h1 h2 hd hg hv=>⟨_,H3,aZ (.i .i64 v) (.i .i64 w) (.inr rfl) hd h1 h2,hg,λ_=>by rw[<-hv]⟩;generalize G0:q0=r0 at fin;rw[<-J']at G0;clear J';unfold bW at G0;refine zG tyF λK hK=>?_;refine hK.out _ _ ?_;refine R1.gen (λA1 H1=>Gr H H1∧H.nx<H1.nx∧H1.get H.nx=some (.arr [a,b] 26 0 0)∧slot A1.tm 0=.one (k)∧slot A1.tm 2=.one (w)∧slot A1.tm 3=.one (fx)∧slot A1.tm 5=.one ((.o (.ptr H.nx 0 0 2)))∧A1.nt=25∧A1.dfr=[]) ⟨(Fr.refl _).new _,zA6 _,aB rfl,zL⟩ ?_;rintro A1 H1 ⟨g1,m1,rx,t0,t2,t3,t5,A0,B0⟩;clear h0 h1 h2 h3 tm hK K;have hk:=hk.gr g1;have ha:=ha.gr g1;have hb:=hb.gr g1;have hw:=hw.gr g1;have hf:=hf.gr g1;refine zG (qA tyF iO) λK hK=>?_;refine WE.con (gU H1 k a b w o p v hk hL ha hb hB hw hV) λw' H2 g2 hq=>?_;subst hq;have rx:=(g2.get _ m1 zB2).trans rx;have m1:=zA0 m1 g2.nx;have hk:=hk.gr g2;have ha:=ha.gr g2;have hb:=hb.gr g2;have hw:=hw.gr g2;have hf:=hf.gr g2;have g2:=g1.gr g2;clear g1;have D0:=@nB o p v;have W7:=@wP o p v;have hoc:=@lV o p;generalize ep o p v=e0 at G0 D0 W7;by_cases W0:e0=0
 case neg=>
  have ce:(e0==0)=false:=zB5 W0;rw[zB0 W0]at G0;replace G0:Hd _:=G0;refine zK tyF ?_;exact fin (0) (e0) _ _ qp qp qe (g2) (G0.out)
 rw[zB1 (λh=>h W0)]at G0;have ce:(e0==0)=true:=by rw[W0];rfl
 obtain⟨hC,hR,I1,hcp,B9⟩:=D0 W0
 have hvr:=W7 W0;obtain⟨ls,rfl,_,_,J9,_⟩:=hoc hcp
 have hL1:=hL ls rfl;have E8:∀y∈p.1,aH (bS (some ls) y.2.2.1).1 (bS (some ls) y.2.2.1).2=0:=λy hy=>L0 ls rfl _ (sD (uj J9 y hy));obtain⟨lc,lr⟩:=p
 replace G0:fZ ls lc lr v none 0 l=r0:=G0;replace hR:lr.length≤1000000:=by have:lr.length≤64:=hR;omega
 have hcon:Hd (Con E2 25 [.one k,.agg [a,b],.one w,.one fx] H2 (λ_=>False) λr _=>r=.tup [(false,[.i .i64 r0.1]),(false,[.i .i64 r0.2])]):=by
  have h:=Pq H2 k a b w fx ls lc lr v l hk hL1 ha hb hC hR I1 hvr E8 hw hf hF;rw[G0]at h;exact h
 clear D0 hoc W7 B9 hcp hL L0 hB J9 E8 hvr hL1 G0 ha hb hC hR;replace I1:Hd _:=I1;replace W0:Hd _:=W0;refine zK tyF ?_;refine zG (qA tyF UJ) λK hK=>?_;refine WE.con hcon.out λw' H3 g3 hq=>?_;subst hq;refine zK tyF ?_;exact fin (r0.1) (r0.2) _ _ qp qp qe (g2.gr g3) (rfl)
def Ew:ao Tryz.prog 9=true:=by kernel_rfl
def aM(v:List Int)(l:List Fx):List Int:=l.foldl (λa x=>a.set x.1.toNat x.2.2.1) v
def cA(l:List Fx):∀(v:List Int),(aM v l).length=v.length:=by
 induction l with
 |nil=>intro v;rfl
 |cons x l ih=>
  intro v;show(aM (v.set x.1.toNat x.2.2.1) l).length=_
  rw[ih,List.length_set]
def xa(v:List Int)(l:List Fx)(x:Fx):aM v (l++[x])=(aM v l).set x.1.toNat x.2.2.1:=by
 unfold aM;rw[List.foldl_append];rfl
def cq(o:Option (List Lad))(p:Pz)(v:List Int)(l:List Fx):List Int×Int:=if(bW o p v l).2≠0 then([],(bW o p v l).2)else(aM v l,0)
def Ib{ls:List Lad}{lc:List Cl}{lr:List Rl}{v:List Int}:∀(l:List Fx)(prev:Option Int)(t:Int),(fZ ls lc lr v prev t l).2=0->∀x∈l,0≤x.1∧x.1<v.length
 |[],_,_,_,x,hx=>absurd hx List.not_mem_nil
 |f::l,prev,t,h,x,hx=>by
  rw[fZ]at h;by_cases c1:ee v prev f=true
  ·rw[zB0 c1]at h;cases h
  rw[zB1 c1]at h;by_cases c2:f.2.2.2=0∨f.2.2.2≠qs ls lc lr f
  ·rw[zB0 c2]at h;cases h
  rw[zB1 c2]at h;rcases List.mem_cons.1 hx with rfl|hx
  ·rw[Bool.not_eq_true]at c1;unfold ee at c1;rw[Bool.or_eq_false_iff,Bool.or_eq_false_iff,decide_eq_false_iff_not,decide_eq_false_iff_not]at c1;have h1:=c1.1;have h2:=c1.2.1;omega
  exact Ib l _ _ h x hx
def Ti{o:Option (List Lad)}{p:Pz}{v:List Int}{l:List Fx}(h:(bW o p v l).2=0):∀x∈l,0≤x.1∧x.1<v.length:=by
 unfold bW at h;by_cases c:ep o p v≠0
 ·rw[zB0 c]at h;exact absurd h c
 rw[zB1 c]at h;exact Ib l _ _ h
def ZA{acc:List Int}{x:Int}{a:Int}(h0:0≤x)(h:x<acc.length):List.take x.toNat (acc.map (AC.i .i64))++AC.i .i64 a::List.drop (x.toNat+1) (acc.map (AC.i .i64))=(acc.set x.toNat a).map (AC.i .i64):=setRow (AC.i .i64) acc x.toNat a (by omega)
def Ak(H:Hp)(k a b w fx:AC)(o:Option (List Lad))(p:Pz)(v:List Int)(l:List Fx)(hk:bF H k o)(hL:∀ls,o=some ls->∀x∈ls,x.2.length≤1000000)(L0:∀ls,o=some ls->∀x∈ls,aH x.1 x.2=0)(ha:dH H a p.1)(hb:dA H b p.2)(hB:PzB p)(hw:SlI H w v)(hV:v.length*8≤140737488355328)(hf:SlF H fx l)(hF:l.length≤4398046511104):
  Con E2 9 [.one k,.agg [a,b],.one w,.one fx] H (λ_=>False) λr H'=>∃c,r=.tup [(false,[c]),(false,[.i .i64 (cq o p v l).2])]∧SlI H' c (cq o p v l).1:=by
 refine Con.of rfl λlg=>?_;have hk:bF ⟨H.t,H.nx,lg⟩ k o:=bF.same (H:=H) rfl rfl hk;have ha:dH ⟨H.t,H.nx,lg⟩ a p.1:=ha;have hb:dA ⟨H.t,H.nx,lg⟩ b p.2:=hb;have hw:SlI ⟨H.t,H.nx,lg⟩ w v:=hw;have hf:SlF ⟨H.t,H.nx,lg⟩ fx l:=hf;generalize(⟨H.t,H.nx,lg⟩:Hp)=H at hk ha hb hw hf ⊢
 refine C1.body (E:=E2) (nt:=42) (res:=[.tmp 8,.tmp 9]) Tryz.func9 rfl rfl rfl rfl rfl λtm z0=>?_;have h0:=z0 0 _ rfl;have h1:=z0 1 _ rfl;have h2:=z0 2 _ rfl;have h3:=z0 3 _ rfl;clear z0;generalize G0:cq o p v l=r0;have fin:∀(c:AC)(e:Int)(A:aa)(H3:Hp),slot A.tm 8=.one c->slot A.tm 9=.one (.i .i64 e)->A.dfr=[]->Gr H H3->SlI H3 c r0.1∧e=r0.2->∃w H4,aC E2 [.tmp 8,.tmp 9] (.ret,A,H3)=.ok [(w,H4)]∧Gr H H4∧∀lg':List Nat,∃c,w=.tup [(false,[c]),(false,[.i .i64 r0.2])]∧SlI ⟨H4.t,H4.nx,lg'⟩ c r0.1:=λc e A H3 h1 h2 h3 h4 h5=>⟨_,H3,aZ c (.i .i64 e) (.inr rfl) h3 h1 h2,h4,λ_=>⟨c,by rw[h5.2],h5.1⟩⟩;unfold cq at G0;replace G0:Hd _:=G0;refine zG tyF λK hK=>?_;refine hK.out _ _ ?_;refine R1.gen (λA1 H1=>Gr H H1∧H.nx<H1.nx∧H1.get H.nx=some (.arr [a,b] 26 0 0)∧slot A1.tm 0=.one (k)∧slot A1.tm 2=.one (w)∧slot A1.tm 3=.one (fx)∧slot A1.tm 5=.one ((.o (.ptr H.nx 0 0 2)))∧A1.nt=42∧A1.dfr=[]) ⟨(Fr.refl _).new _,zA6 _,aB rfl,zL⟩ ?_;rintro A1 H1 ⟨g1,m1,rx,t0,t2,t3,t5,A0,B0⟩;clear h0 h1 h2 h3 tm hK K;have K9:=hf;have hk:=hk.gr g1;have ha:=ha.gr g1;have hb:=hb.gr g1;have hw:=hw.gr g1;have hf:=hf.gr g1;refine zG (qA tyF Bv) λK hK=>?_;refine WE.con (uF H1 k a b w fx o p v l hk hL L0 ha hb hB hw (by omega) hf hF) λw' H2 g2 hq=>?_;subst hq;have rx:=(g2.get _ m1 zB2).trans rx;have m1:=zA0 m1 g2.nx;have hw:=hw.gr g2;have g2:=g1.gr g2;clear g1 ha hb hk;have D0:=@Ti o p v l;generalize bW o p v l=ce at G0 D0 ⊢;obtain⟨tot,e0⟩:=ce
 replace D0:e0=0->_:=D0;replace G0:Hd ((if e0≠0 then([],e0)else(aM v l,0))=r0):=G0;by_cases W0:e0=0
 case neg=>
  have cz:(e0==0)=false:=zB5 W0;have M3:=G0.out;rw[zB0 W0]at M3;clear G0;replace M3:Hd _:=M3;refine zK tyF ?_;exact fin (.o .nilS) (e0) _ _ qp qp qe (g2) (⟨by rw[<-M3.out];exact SlI.nil,by rw[<-M3.out]⟩)
 have hok1:=D0 W0;clear D0;subst W0;have M3:=G0.out;rw[zB1 (λh=>h rfl)]at M3;clear G0;replace M3:Hd _:=M3;refine zK tyF ?_;refine zG (qA tyF zm) λK hK=>?_;refine WE.con (vH H2 w v hw hV) λw' H3 g3⟨c,q,hq,hc,hqn⟩=>?_;subst hq;have rx:=(g3.get _ m1 zB2).trans rx;have m1:=zA0 m1 g3.nx;have J1:=hc.lt;have hqH:∀i,q=some i->H.nx≤i:=λi h=>zA2 g2.nx (hqn i h);have g3:=g2.gr g3;have hf:=K9.gr g3;have l1:=hf.len;have l2:=hf.lt;clear g2 hw hqn;obtain⟨N,hN⟩:∃N,N=H.nx:=⟨_,rfl⟩
 rw[<-hN]at m1 rx t5;clear hN;refine zK tyF ?_;refine R1.fb λK2 k1 k2 k3 k4=>?_;refine R1.loop (λz A H4=>∃i:Nat,z=l.length-i∧i≤l.length∧Gr H H4∧CJ H4 c (aM v (l.take i)) q∧slot A.tm 12=.one (c)∧slot A.tm 28=.one (fx)∧slot A.tm 29=.one (.i .i64 (l.length:Int))∧slot A.tm 30=.one (.i .i64 (i:Int))∧A.nt=42∧A.dfr=[]) ?_ l.length
  ⟨0,rfl,Nat.zero_le _,g3,hc,zL⟩
 clear t0 t2 t3 t5 A0 B0 A1 k3 l1 l2 hc rx m1 J1;rintro z A H4 ⟨i,rfl,hi,g4,hc,t12,t28,t29,t30,A0,B0⟩;have hff:=K9.gr g4;have l1:=hff.len;have l2:=hff.lt;have J1:=hc.lt;refine zW tyF ?_;refine zI tyF (λp_=>?_) (λp_=>?_)
 ·have C0:i<l.length:=by omega
  have ex:=zB4 C0;have N0:=zC1 C0;have I2:=zC2 C0;have E0:l[i]∈l:=List.getElem_mem C0;generalize l[i]=x at ex N0 I2 E0;have B3:=zC0 i (by omega);obtain⟨X2,e_⟩:=hok1 x E0
  obtain⟨id,g,off,cells,rfl,hid,B1,K0⟩:=K9.open (by omega)
  have hidH:=hid;have hgr4:rowOf (H4.get id) g=some cells:=by rw[g4.get _ hid zB2];exact B1
  have Y6:id<H4.nx:=zA0 hid g4.nx;have O0:=K0 i x ex;clear K0 E0 B1 hid hff N0;have hv0:0<(aM v (l.take i)).length:=by rw[cA];omega
  rcases hc with⟨_,h0,_⟩|⟨rid,lo,gen,hqe,rfl,B9,C6,P3,y8⟩
  ·omega
  have j9:=cA (l.take i) v;have V0:aM v (l.take (i+1))=(aM v (l.take i)).set x.1.toNat x.2.2.1:=by rw[I2,xa]
  have hrH:H.nx≤rid:=hqH rid hqe;generalize aM v (l.take i)=acc at B9 P3 j9 V0 hv0 J1 t12 ⊢;have hxa:x.1<acc.length:=by omega
  have z5:=ZA (a:=x.2.2.1) X2 hxa;have hle:x.1.toNat+1≤(acc.map (AC.i .i64)).length:=by rw[List.length_map];omega
  have hneq:id≠rid:=by omega
  clear I2 e_ j9 P3 hv0;have y1:=O0.all;have y2:=O0.le;rw[fxC]at y1;clear O0;obtain⟨x1,x2,x3,x4⟩:=x
  replace y1:(cells.drop (off+i*4)).take 4=[.i .i64 x1,.i .i64 x2,.i .i64 x3,.i .i64 x4]:=y1;replace X2:0≤x1:=X2;replace hxa:x1<acc.length:=hxa;replace z5:List.take x1.toNat (acc.map (AC.i .i64))++AC.i .i64 x3::List.drop (x1.toNat+1) (acc.map (AC.i .i64))=(acc.set x1.toNat x3).map (AC.i .i64):=z5;replace hle:x1.toNat+1≤(acc.map (AC.i .i64)).length:=hle;replace V0:aM v (l.take (i+1))=acc.set x1.toNat x3:=V0;replace V0:Hd _:=V0;replace ex:Hd _:=ex;replace hqe:Hd _:=hqe;refine zW tyF ?_;refine R1.fb λK3 q1 q2 q3 q4=>?_;refine zG (qA tyF (ixC C0)) λK hK=>?_;refine hK.out _ _ ?_;refine R1.gen (λA4 H5=>Gr H4 H5∧H4.nx<H5.nx∧H5.get H4.nx=some (.arr [.i .i64 x1,.i .i64 x2,.i .i64 x3,.i .i64 x4] 80 0 0)∧slot A4.tm 12=.one ((.o (.sl rid gen 0 acc.length 1)))∧slot A4.tm 14=.one ((.o (.ptr H4.nx 0 0 4)))∧slot A4.tm 28=.one ((.o (.sl id g off l.length 4)))∧slot A4.tm 29=.one (.i .i64 (l.length:Int))∧slot A4.tm 30=.one (.i .i64 (i:Int))∧A4.nt=42∧A4.dfr=[])
   ⟨((Fr.refl _).new _).mod _ (.inl (zA1 _)),zA6 _,an rfl,zL⟩ ?_
  clear t12 t28 t29 t30 A0 B0 A y1 y2 hK K l1 l2 J1;rintro A H5 ⟨g5,mM,rM,t12,t14,t28,t29,t30,A0,B0⟩;obtain⟨M,hM⟩:∃M,M=H4.nx:=⟨_,rfl⟩
  rw[<-hM]at mM rM t14;have hMr:M≠rid:=by omega
  replace hM:Hd _:=hM;have B9:=(g5.get _ y8 zB2).trans B9;have y8:=zA0 y8 g5.nx;have hg5:=g4.gr g5;clear g4 g5 Y6 hgr4;refine zW (zDf tyF (ixI X2 hxa) z5 Nat.mul_one hle) ?_;refine q1.out _ _ ?_;refine zW tyF ?_;exact⟨l.length-(i+1),by omega,i+1,rfl,C0,hg5.mod _ (.inl hrH),by
   rw[V0.out];exact .inr ⟨rid,gen,gen,hqe.out,by rw[List.length_set],an rfl,zA1 _,by rw[List.length_map,Nat.mul_one],y8⟩,zL⟩
 have S1:i=l.length:=by omega
 rw[S1,List.take_length]at hc;clear S1;replace hc:Hd _:=hc;refine zW tyF ?_;refine k2.out _ _ ?_;refine zW tyF ?_;exact fin (c) (0) _ _ qp qp qe (g4) (⟨by rw[<-M3.out];exact CJ.slI hc.out,by rw[<-M3.out]⟩)
def wA(o:Option (List Lad))(p:Pz)(v:List Int)(l:List Fx):(cq o p v l).1.length≤v.length:=by
 unfold cq;by_cases h:(bW o p v l).2≠0
 ·rw[zB0 h];exact Nat.zero_le _
 rw[zB1 h];exact Nat.le_of_eq (cA l v)
def tyC:=zDi tyF Mh Md Kb Mi yx zB yy
def fz{α:Type}(c:α->List AC)(d:Array α):List AC:=d.toList.flatMap c
section
variable{α:Type}[Inhabited α]{c:α->List AC}(hc:∀x,(c x).length=4)
include hc
omit [Inhabited α]in
theorem wx(d:Array α):(fz c d).length=d.size*4:=by
 unfold fz;rw[wR hc,Array.length_toList]
omit [Inhabited α]in
theorem QI(d:Array α)(i:Nat)(x:α):(fz c (d.setIfInBounds i x)).length=(fz c d).length:=by
 rw[wx hc,wx hc,Array.size_setIfInBounds]
theorem ub(d:Array α){i:Nat}(h:i<d.size):((fz c d).drop (i*4)).take 4=c d[i]!:=by
 have e:d.toList[i]?=some d[i]!:=by
  rw[Array.getElem?_toList,getElem!_pos d i h,Array.getElem?_eq_getElem h]
 exact Cb hc d.toList i _ e
omit [Inhabited α]in
theorem tM(d:Array α){i:Nat}(h:i<d.size):i*4+4≤(fz c d).length:=by
 rw[wx hc];omega
omit [Inhabited α]in
theorem FG:∀(l:List α)(i:Nat)(x:α),i<l.length->(l.flatMap c).take (i*4)++(c x++(l.flatMap c).drop (i*4+4))=(l.set i x).flatMap c
 |[],i,_,h=>absurd h (Nat.not_lt_zero i)
 |y::l,0,x,_=>by
  rw[Nat.zero_mul,List.take_zero,List.nil_append,List.flatMap_cons,List.set_cons_zero,List.flatMap_cons,Nat.zero_add,List.drop_append,hc,List.drop_of_length_le (Nat.le_of_eq (hc y)),Nat.sub_self,List.drop_zero,List.nil_append]
 |y::l,i+1,x,h=>by
  have ih:=FG l i x (Nat.lt_of_succ_lt_succ h);have e1:(i+1)*4=4+i*4:=by omega
  have e2:4+i*4+4=4+(i*4+4):=by omega
  rw[List.flatMap_cons,List.set_cons_succ,List.flatMap_cons,<-ih,e1,e2,List.take_append,List.drop_append,hc,List.take_of_length_le (by rw[hc];omega),List.drop_of_length_le (by rw[hc];omega),List.nil_append,List.append_assoc,Nat.add_sub_cancel_left,Nat.add_sub_cancel_left]
omit [Inhabited α]in
theorem DX(d:Array α){i:Nat}(h:i<d.size)(x:α):(fz c d).take (i*4)++(c x++(fz c d).drop (i*4+4))=fz c (d.setIfInBounds i x):=by
 unfold fz;rw[FG hc d.toList i x (by rw[Array.length_toList];exact h),Array.toList_setIfInBounds]
theorem swQ{d:Array α}{i j:Nat}(hi:i<d.size)(hj:j<d.size):
  (((fz c d).drop (i*4)).take 4=c d[i]!)∧(((fz c d).drop (j*4)).take 4=c d[j]!)∧i*4+4≤(fz c d).length∧j*4+4≤(fz c d).length∧(∀(d:Array α)(i:Nat)(x:α),(fz c (d.setIfInBounds i x)).length=(fz c d).length) ∧
  (∀x,(fz c d).take (i*4)++(c x++(fz c d).drop (i*4+4))=fz c (d.setIfInBounds i x)) ∧
  (∀x y,(fz c (d.setIfInBounds i x)).take (j*4)++(c y++(fz c (d.setIfInBounds i x)).drop (j*4+4))=fz c ((d.setIfInBounds i x).setIfInBounds j y)):=
 ⟨ub hc d hi,ub hc d hj,tM hc d hi,tM hc d hj,QI hc,λx=>DX hc d hi x,λx y=>DX hc _ (by rw[Array.size_setIfInBounds];exact hj) y⟩
theorem rdQ{d:Array α}{i j:Nat}(hi:i<d.size)(hj:j<d.size):
  (((fz c d).drop (i*4)).take 4=c d[i]!)∧(((fz c d).drop (j*4)).take 4=c d[j]!)∧i*4+4≤(fz c d).length∧j*4+4≤(fz c d).length:=
 ⟨ub hc d hi,ub hc d hj,tM hc d hi,tM hc d hj⟩
end
def swp_size{α:Type}[Inhabited α](d:Array α)(i j:Nat):(Go.Sort.swp d i j).size=d.size:=by
 unfold Go.Sort.swp;rw[Array.size_setIfInBounds,Array.size_setIfInBounds]
def Srt{α:Type}(c:α->List AC)(H:Hp)(id gen n:Nat)(d:Array α):Prop:=d.size=n∧(∃lo,lo≤gen∧H.get id=some (.arr (fz c d) 80 lo gen))∧id<H.nx
def Srt.sz{α:Type}{c:α->List AC}{H:Hp}{id gen n:Nat}{d:Array α}(h:Srt c H id gen n d):d.size=n:=h.1
def Srt.row{α:Type}{c:α->List AC}{H:Hp}{id gen n:Nat}{d:Array α}(h:Srt c H id gen n d):∃lo,lo≤gen∧H.get id=some (.arr (fz c d) 80 lo gen):=h.2.1
def Srt.lt{α:Type}{c:α->List AC}{H:Hp}{id gen n:Nat}{d:Array α}(h:Srt c H id gen n d):id<H.nx:=h.2.2
structure Cmp{α:Type}(c:α->List AC)(cf:α->α->Int)(cl:FuncId)(N:Nat):Prop where
 len:∀x,(c x).length=4
 lt:∀x,ltV (.agg (c x)) N
 bd:ao Tryz.prog cl=true
 con:∀(H:Hp)(x y:α),N≤H.nx->Con E2 cl [.agg (c x),.agg (c y)] H (λ_=>False) λr _=>r=.one (.i .i64 (cf x y))
def ltF{α:Type}(cf:α->α->Int)(x y:α):Bool:=decide (cf x y<0)
def Cmp.ltH{α:Type}{c:α->List AC}{cf:α->α->Int}{cl:FuncId}{N:Nat}(h:Cmp c cf cl N){n:Nat}(hn:N≤n):∀x,ltV (.agg (c x)) n:=λx i hi=>zA0 (h.lt x i hi) hn
def Srt.fr{α:Type}{c:α->List AC}{H H':Hp}{id gen n:Nat}{d:Array α}{X:Nat->Prop}(h:Srt c H id gen n d)(hf:Fr X H H')(hx:¬X id):Srt c H' id gen n d:=by
 obtain⟨lo,h1,h2⟩:=h.row
 exact⟨h.sz,⟨lo,h1,(hf.get _ h.lt hx).trans h2⟩,zA0 h.lt hf.nx⟩
def Uf:ao Tryz.prog 182=true:=by kernel_rfl
section
variable{α:Type}[Inhabited α]{c:α->List AC}{cf:α->α->Int}{cl N:Nat}
theorem VQ(hm:Cmp c cf cl N)(H:Hp)(id gen n:Nat)(d:Array α)(a b:Nat)(hs:Srt c H id gen n d)(hN:N≤H.nx)(hab:a≤b)(hb:b≤n)(hn:n≤1099511627776):
  Con E2 182 [.one (.o (.sl id gen 0 n 4)),.one (.i .i64 a),.one (.i .i64 b),.one (.o (.clo cl []))] H (λk=>k=id) λr H'=>r=.tup []∧Srt c H' id gen n (Go.Sort.insertionSort (ltF cf) d a b):=by
 have hbd:=hm.bd;refine Con.of rfl λlg=>?_;have hs:Srt c ⟨H.t,H.nx,lg⟩ id gen n d:=hs;have hN:N≤(⟨H.t,H.nx,lg⟩:Hp).nx:=hN;generalize(⟨H.t,H.nx,lg⟩:Hp)=H at hs hN ⊢
 refine C1.body (E:=E2) (nt:=53) (res:=[]) Tryz.func182 rfl rfl rfl rfl rfl λtm z0=>?_;have h0:=z0 0 _ rfl;have h1:=z0 1 _ rfl;have h2:=z0 2 _ rfl;have h3:=z0 3 _ rfl;clear z0;unfold Go.Sort.insertionSort;generalize G0:Go.Sort.insOuter (ltF cf) a b (a+1) d=R;have fin:∀(A:aa)(H3:Hp)(dc:Array α),A.dfr=[]->Fr (λk=>k=id) H H3->Srt c H3 id gen n dc->dc=R->∃w H4,aC E2 [] (.normal,A,H3)=.ok [(w,H4)]∧Fr (λk=>k=id) H H4∧∀lg':List Nat,w=.tup []∧Srt c ⟨H4.t,H4.nx,lg'⟩ id gen n R:=λA H3 dc h1 h2 h3 h4=>⟨_,H3,bX (.inl rfl) h1,h2,λ_=>⟨rfl,by rw[<-h4];exact h3⟩⟩;have hid:=hs.lt;have w8:=zC0 a (by omega);replace G0:Hd _:=G0;refine zW tyF ?_;refine R1.og λK k1 k2 k3 k4=>?_;refine R1.loop (λz A H3=>∃(i:Nat)(dc:Array α),z=b-i∧a+1≤i∧i≤n+1∧Fr (λk=>k=id) H H3∧Srt c H3 id gen n dc∧Hd (Go.Sort.insOuter (ltF cf) a b i dc=R)∧slot A.tm 0=.one ((.o (.sl id gen 0 n 4)))∧slot A.tm 1=.one (.i .i64 (a:Int))∧slot A.tm 2=.one (.i .i64 (b:Int))∧slot A.tm 3=.one ((.o (.clo cl [])))∧slot A.tm 8=.one (.i .i64 (i:Int))∧A.nt=53∧A.dfr=[]) ?_ (b-(a+1))
  ⟨a+1,d,rfl,zA1 _,by omega,Fr.refl _,hs,G0,zL⟩
 clear h0 h1 h2 h3 tm hs G0 hid w8 k3;rintro z A H3 ⟨i,dc,rfl,hia,M1,f3,hs,hr,t0,t1,t2,t3,t8,A0,B0⟩;have hid:=hs.lt;refine zW tyF ?_;refine zI tyF (λp_=>?_) (λp_=>?_)
 ·have hib:i<b:=by omega
  have M3:=hr.out;rw[Go.Sort.insOuter,zB0 hib]at M3;clear hr;replace M3:Hd _:=M3;have T_:=zC0 i (by omega);refine zW tyF ?_;refine R1.fb λK2 q1 q2 q3 q4=>?_;refine zW tyF ?_;refine R1.og λK3 p1 p2 p3 p4=>?_;refine R1.loop (λz A H4=>∃(j:Nat)(dj:Array α),z=j∧j≤i∧Fr (λk=>k=id) H H4∧Srt c H4 id gen n dj∧Hd (Go.Sort.insOuter (ltF cf) a b (i+1) (Go.Sort.insInner (ltF cf) a j dj)=R)∧slot A.tm 0=.one ((.o (.sl id gen 0 n 4)))∧slot A.tm 1=.one (.i .i64 (a:Int))∧slot A.tm 2=.one (.i .i64 (b:Int))∧slot A.tm 3=.one ((.o (.clo cl [])))∧slot A.tm 8=.one (.i .i64 (i:Int))∧slot A.tm 9=.one (.i .i64 (j:Int))∧A.nt=53∧A.dfr=[]) ?_ i
   ⟨i,dc,rfl,zA1 _,f3,hs,M3,zL⟩
  clear t0 t1 t2 t3 t8 A0 B0 A M3 hs hid f3 p3 q3;rintro j A H4 ⟨_,dj,rfl,hji,f4,hs,hr,t0,t1,t2,t3,t8,t9,A0,B0⟩;have hid:=hs.lt;by_cases hja:a<j
  ·obtain⟨j,rfl⟩:∃k,j=k+1:=⟨j-1,by omega⟩
   have hja':(a:Int)<((j+1:Nat):Int):=by omega
   have hwj:IntKind.i64.wrap (((j+1:Nat):Int)-1)=(j:Int):=by rw[aP (by omega) (by omega)];omega
   obtain⟨lo,C6,hg⟩:=hs.row
   have N_:=hs.sz;have hj1:j+1<n:=by omega
   have hj0:j<n:=by omega
   have lv:=hm.ltH (zA2 hN f4.nx);have J1:=hm.len;replace N_:Hd _:=N_;refine zG (zDe tyF (ixC hj1) (ixC hj0) (rdQ hm.len (d:=dj) (i:=j+1) (j:=j) (by have:=N_.out;omega) (by have:=N_.out;omega))) λK hK=>?_;refine WE.con (hm.con H4 dj[j+1]! dj[j]! (zA2 hN f4.nx)) λw' H5 g5 hq=>?_;subst hq;have hg:=(g5.get _ hid zB2).trans hg;have hid:=zA0 hid g5.nx;have lv:=hm.ltH (zA2 hN (zA2 f4.nx g5.nx));have f5:=f4.then g5 λ_ h=>h.elim;have E':=hr.out;rw[Go.Sort.insInner]at E';by_cases hcf:cf dj[j+1]! dj[j]!<0
   ·have X3:(decide (j+1>a)&&ltF cf dj[j+1]! dj[j]!)=true:=by
     rw[decide_eq_true (by omega:j+1>a)];exact decide_eq_true hcf
    rw[zB0 X3]at E';clear hr X3;replace E':Hd _:=E';refine zK tyF ?_;refine R1.fb λK4 u1 u2 u3 u4=>?_;refine zW (zDe tyF (ixC hj1) (ixC hj0) (swQ hm.len (d:=dj) (i:=j+1) (j:=j) (by have:=N_.out;omega) (by have:=N_.out;omega))) ?_;refine u1.out _ _ ?_;refine zW tyF ?_;exact⟨j,zA6 _,j,Go.Sort.swp dj (j+1) j,rfl,by omega,(f5.mod _ (.inr rfl)).mod _ (.inr rfl),⟨by rw[swp_size];exact N_.out,⟨gen,zA1 _,an rfl⟩,hid⟩,E',zL⟩
   have X3:(decide (j+1>a)&&ltF cf dj[j+1]! dj[j]!)=false:=by
    rw[decide_eq_true (by omega:j+1>a)];exact decide_eq_false hcf
   rw[zB1 (by rw[X3];decide)]at E';clear hr X3;replace E':Hd _:=E';refine zK tyF ?_;refine p2.out _ _ ?_;refine q1.out _ _ ?_;refine zW tyF ?_;exact⟨b-(i+1),by omega,i+1,dj,rfl,by omega,by omega,f5,⟨N_.out,⟨lo,C6,hg⟩,hid⟩,E',zL⟩
  have hja':¬(a:Int)<(j:Int):=by omega
  have E':=hr.out;have M1:Go.Sort.insInner (ltF cf) a j dj=dj:=by
   cases j with
   |zero=>rfl
   |succ j=>rw[Go.Sort.insInner,decide_eq_false (by omega:¬j+1>a),Bool.false_and,zB1 (by decide)]
  rw[M1]at E';clear hr M1;replace E':Hd _:=E';refine zW tyF ?_;refine p2.out _ _ ?_;refine q1.out _ _ ?_;refine zW tyF ?_;exact⟨b-(i+1),by omega,i+1,dj,rfl,by omega,by omega,f4,hs,E',zL⟩
 have hib:¬i<b:=by omega
 have M3:=hr.out;rw[Go.Sort.insOuter,zB1 hib]at M3;refine zW tyF ?_;refine k2.out _ _ ?_;exact fin _ _ _ qe f3 hs M3
end
def PM:ao Tryz.prog 71=true:=by kernel_rfl
def Td:ao Tryz.prog 126=true:=by kernel_rfl
def tyU:=zDm tyF RX Qo RY SS UD Ut PV Tp LV Ka (zDg Ke Mj Xz Xw arQ Zd)
def cvQ{s t:TypeId}{ks kt:IntKind}(hs:Tryz.prog.underlying s=some (.int ks))(ht:Tryz.prog.underlying t=some (.int kt)):(∀(tm:PT AV)(H:Hp)(d:Option Tmp)(ty:TypeId)(pos:String)(af:Array Edge)(g:Option (Nat×Bool))(x:Operand),aq Tryz.prog tm H ⟨d,.convert s t x,ty,pos,af,g⟩=WM (λ_ a=>.i kt (kt.wrap a)) H (bH Tryz.prog tm H ⟨d,.convert s t x,ty,pos,af,g⟩) (ev tm x)) ∧
  (∀(H:Hp)(alt:ab)(k:IntKind)(a:Int),WM (λ_ a=>.i kt (kt.wrap a)) H alt (.one (.i k a))=.val (.one (.i kt (kt.wrap a))) H):=⟨λ_ _ _ _ _ _ _ _=>Ir hs ht,λ_ _ _ _=>rfl⟩
def ixS:(∀{st:Bool}{E:Env}{A:aa}{d:Option Tmp}{H:Hp}{next:aa->Hp->Prop}{ty:TypeId}{pos:String}{af:Array Edge}{gd:Option (Nat×Bool)}{t:TypeId}{x i:Operand},SK st E ⟨d,.index t x i,ty,pos,af,gd⟩ A H next=vN next A d (ir H (lO E.P t) (ev A.tm x) (ev A.tm i) (aq E.P A.tm H ⟨d,.index t x i,ty,pos,af,gd⟩)))∧lO Tryz.prog 9=true ∧
  (∀{st:Bool}{E:Env}{A:aa}{d:Option Tmp}{H:Hp}{next:aa->Hp->Prop}{ty:TypeId}{pos:String}{af:Array Edge}{gd:Option (Nat×Bool)}{a b:TypeId}{x:Operand},SK st E ⟨d,.convert a b x,ty,pos,af,gd⟩ A H next=vN next A d (aq E.P A.tm H ⟨d,.convert a b x,ty,pos,af,gd⟩)):=⟨ma,wG,JL⟩
def Zx:List UInt8:=(List.range 256).map λm=>UInt8.ofNat (Go.Sort.bitsLen m)
def Jq{next:aa->Hp->Prop}{A:aa}{d:Option Tmp}{H:Hp}{s:List UInt8}{k:IntKind}{m:Nat}{alt:ab}(hs:s=Zx)(hm:m<256)(hn:vN next A d (.val (.one (.i .u8 (Go.Sort.bitsLen m:Int))) H)):vN next A d (ir H true (.one (.o (.str s))) (.one (.i k (m:Int))) alt):=by
 have h:s[m]?=some (UInt8.ofNat (Go.Sort.bitsLen m)):=by
  rw[hs];unfold Zx;rw[List.getElem?_map,List.getElem?_range hm];rfl
 rw[SX h];have e:((UInt8.ofNat (Go.Sort.bitsLen m)).toNat:Int)=(Go.Sort.bitsLen m:Int):=by
  have:Go.Sort.bitsLen m≤8:=(Go.Sort.bitsLen_le_iff m 8).2 (by omega);rw[UInt8.toNat_ofNat'];omega
 rw[e];exact hn
def js{x:Nat}(h:256≤x):Go.Sort.bitsLen x=8+Go.Sort.bitsLen (x/256):=by
 have a:∀k,Go.Sort.bitsLen x≤8+k↔Go.Sort.bitsLen (x/256)≤k:=λk=>by
  rw[Go.Sort.bitsLen_le_iff,Go.Sort.bitsLen_le_iff,Nat.pow_add,Nat.div_lt_iff_lt_mul (by decide),Nat.mul_comm]
 have b:=(a (Go.Sort.bitsLen (x/256))).2 (zA1 _);have c:8≤Go.Sort.bitsLen x:=by
  by_cases h8:Go.Sort.bitsLen x≤7
  ·have:=(Go.Sort.bitsLen_le_iff x 7).1 h8;omega
  omega
 have d:=(a (Go.Sort.bitsLen x-8)).1 (by omega);omega
def rE{x:Nat}(h:x≤65536):Go.Sort.bitsLen x≤17:=(Go.Sort.bitsLen_le_iff x 17).2 (by omega)
def Oa(H:Hp)(x:Nat)(hx:x≤65536):Con E2 126 [.one (.i .u64 x)] H (λ_=>False) λr _=>r=.one (.i .i64 (Go.Sort.bitsLen x:Int)):=by
 refine Con.of rfl λlg=>?_;generalize(⟨H.t,H.nx,lg⟩:Hp)=H
 refine C1.body (E:=E2) (nt:=25) (res:=[.tmp 2]) Tryz.func126 rfl rfl rfl rfl rfl λtm z0=>?_;have h0:=z0 0 _ rfl;clear z0;have c1:¬(4294967296:Int)≤(x:Int):=by omega
 have hb:=rE hx;by_cases c16:65536≤x
 ·have c2:(65536:Int)≤(x:Int):=by omega
  have e0:shF .shr .u64 (x:Int) 16=((x/65536:Nat):Int):=SD (k:=16) (by decide);have hy:x/65536=1:=by omega
  have hbx:Go.Sort.bitsLen x=16+Go.Sort.bitsLen (x/65536):=by
   have h1:=js (x:=x) (by omega);have h2:=js (x:=x/256) (by omega);rw[Nat.div_div_eq_div_mul,show 256*256=65536 from rfl]at h2;omega
  generalize x/65536=y at e0 hy hbx;have e2:IntKind.i64.wrap (0+16)=16:=by decide
  have c3i:¬(256:Int)≤(y:Int):=by omega
  have e3:IntKind.u8.wrap (y:Int)=(y:Int):=by rw[IntKind.wrap_u8];omega
  have e4:IntKind.i64.wrap (Go.Sort.bitsLen y:Int)=(Go.Sort.bitsLen y:Int):=aP (by omega) (by omega);have e5:IntKind.i64.wrap (16+(Go.Sort.bitsLen y:Int))=(Go.Sort.bitsLen x:Int):=by
   rw[aP (by omega) (by omega)];omega
  have hy2:y<256:=by omega
  clear hy hbx;refine zW (qA tyU (shI (op:=.shr) (show(0:Int)≤16 by decide))) ?_;refine zG (zDe tyU ixS (cvQ sa lK) (cvQ lK jB)) λK hK=>?_;refine Jq (by kernel_rfl) hy2 ?_;refine zK (zDe tyU ixS (cvQ sa lK) (cvQ lK jB)) ?_;exact⟨_,_,aj (.i .i64 (Go.Sort.bitsLen x:Int)) (.inr rfl) qe qp,Fr.refl _,λ_=>rfl⟩
 have c2:¬(65536:Int)≤(x:Int):=by omega
 by_cases c3:256≤x
 ·have c3i:(256:Int)≤(x:Int):=by omega
  have e1:shF .shr .u64 (x:Int) 8=((x/256:Nat):Int):=SD (k:=8) (by decide);have e2:IntKind.i64.wrap (0+8)=8:=by decide
  have e3:IntKind.u8.wrap ((x/256:Nat):Int)=((x/256:Nat):Int):=by rw[IntKind.wrap_u8];omega
  have e4:IntKind.i64.wrap (Go.Sort.bitsLen (x/256):Int)=(Go.Sort.bitsLen (x/256):Int):=aP (by omega) (by have:=js c3;omega);have e5:IntKind.i64.wrap (8+(Go.Sort.bitsLen (x/256):Int))=(Go.Sort.bitsLen x:Int):=by
   have:=js c3;rw[aP (by omega) (by omega)];omega
  refine zW (qA tyU (shI (op:=.shr) (show(0:Int)≤8 by decide))) ?_;refine zG (zDe tyU ixS (cvQ sa lK) (cvQ lK jB)) λK hK=>?_;refine Jq (by kernel_rfl) (by omega) ?_;refine zK (zDe tyU ixS (cvQ sa lK) (cvQ lK jB)) ?_;exact⟨_,_,aj (.i .i64 (Go.Sort.bitsLen x:Int)) (.inr rfl) qe qp,Fr.refl _,λ_=>rfl⟩
 have c3i:¬(256:Int)≤(x:Int):=by omega
 have e3:IntKind.u8.wrap (x:Int)=(x:Int):=by rw[IntKind.wrap_u8];omega
 have e4:IntKind.i64.wrap (Go.Sort.bitsLen x:Int)=(Go.Sort.bitsLen x:Int):=aP (by omega) (by omega);have e5:IntKind.i64.wrap (0+(Go.Sort.bitsLen x:Int))=(Go.Sort.bitsLen x:Int):=by
  rw[aP (by omega) (by omega)];omega
 refine zW (qA tyU (shI (op:=.shr) (show(0:Int)≤8 by decide))) ?_;refine zG (zDe tyU ixS (cvQ sa lK) (cvQ lK jB)) λK hK=>?_;refine Jq (by kernel_rfl) (by omega) ?_;refine zK (zDe tyU ixS (cvQ sa lK) (cvQ lK jB)) ?_;exact⟨_,_,aj (.i .i64 (Go.Sort.bitsLen x:Int)) (.inr rfl) qe qp,Fr.refl _,λ_=>rfl⟩
def MH(H:Hp)(x:Nat)(hx:x≤65536):Con E2 71 [.one (.i .u64 x)] H (λ_=>False) λr _=>r=.one (.i .i64 (Go.Sort.bitsLen x:Int)):=by
 refine Con.of rfl λlg=>?_;generalize(⟨H.t,H.nx,lg⟩:Hp)=H
 refine C1.body (E:=E2) (nt:=8) (res:=[.tmp 2]) Tryz.func71 rfl rfl rfl rfl rfl λtm z0=>?_;have h0:=z0 0 _ rfl;clear z0;refine zW tyF ?_;refine zG (qA tyF Td) λK hK=>?_;refine WE.con (Oa H x hx) λw' H1 g1 hw=>?_;subst hw;refine zK tyF ?_;exact⟨_,_,aj (.i .i64 (Go.Sort.bitsLen x:Int)) (.inr rfl) qe qp,g1,λ_=>rfl⟩
def ZL(us:List Pr)(cs ds:List Int):List Nat->List UInt8
 |[a]=>(us.getD a ([],0)).1
 |[a,b]=>if fY cs ds [a,b]=3 then(us.getD a ([],0)).1 else(us.getD b ([],0)).1
 |_=>[]
def Mo(us:List Pr)(n m:Int):Sp:=(fY (aG us n) (aG us m) (jF (aG us n) (aG us m) us.length),ZL us (aG us n) (aG us m) (jF (aG us n) (aG us m) us.length),m)
def LC{nm:List UInt8}{us:List Pr}(L0:aH nm us=0){n:Int}(M5:1≤n){i:Nat}(hi:i<us.length){x:Sp}(hx:x∈dS us (aG us n) (dR nm us) n i):
  okN x.2.2=true∧x=Mo us n x.2.2∧x.1≠0∧(jF (aG us n) (aG us x.2.2) us.length=[i]∨i+1<us.length∧jF (aG us n) (aG us x.2.2) us.length=[i,i+1]):=by
 obtain⟨hL,Z9,hf⟩:=iA L0
 have l6:∀x∈us,1≤x.2:=λx hx=>(hf x hx).1;obtain⟨x0,l0,hxl,O0⟩:=eB L0
 have Z0:us≠[]:=by rw[hxl];simp
 have L8:=kg us n (by omega) l6;have hen:=mW us n Z0;have B':∀ds m,oY us ds->evH us ds=m->aG us m=ds:=λds m h1 h2=>by rw[<-h2];exact uD us ds h1
 have hv:∀i,i<us.length->(dR nm us).getD i 0=vW us i:=λi hi=>(pD L0 hi).1;clear Z9 hf hxl O0;unfold Mo;generalize dR nm us=vs at hv hx;generalize aG us n=cs at L8 hen hx ⊢;have hl:=L8.1;have e1:∀i d,i<us.length->evH us (cs.set i d)=n+(d-cs.getD i 0)*vW us i:=λi d hi=>by rw[vQ us cs i d hl hi,hen]
 have e2:∀i d e,i+1<us.length->evH us ((cs.set i d).set (i+1) e)=n+(d-cs.getD i 0)*vW us i+(e-cs.getD (i+1) 0)*vW us (i+1):=λi d e hi=>by
  rw[vQ us (cs.set i d) (i+1) e (by rw[List.length_set];exact hl) hi,e1 i d (by omega),cP _ _ _ _ (by omega),zB1 (by omega)]
 have g1:∀i d,i<us.length->(cs.set i d).getD i 0=d:=λi d hi=>by rw[cP _ _ _ _ (by omega),zB0 rfl]
 have g2:∀i d e,i+1<us.length->((cs.set i d).set (i+1) e).getD i 0=d∧((cs.set i d).set (i+1) e).getD (i+1) 0=e:=λi d e hi=>by
  exact⟨by rw[cP _ _ _ _ (by rw[List.length_set];omega),zB1 (by omega),g1 i d (by omega)],by rw[cP _ _ _ _ (by rw[List.length_set];omega),zB0 rfl]⟩
 obtain⟨c0,c1⟩:=L8.2 i hi
 unfold dS at hx;rw[List.mem_append,List.mem_append,eY,eY]at hx;rcases hx with(⟨h1,hk,rfl⟩|⟨h1,hk,rfl⟩)|hx
 ·have hc:=of_decide_eq_true h1;have:=B' (cs.set i (cs.getD i 0-1)) (n-vs.getD i 0) (L8.set hi (by omega) λh=>by have:=c1 h;omega) (by rw[e1 i _ hi,hv i hi,show cs.getD i 0-1-cs.getD i 0=-1 by omega,Int.neg_mul,Int.one_mul];omega);refine⟨hk,?_,(show(1:Int)≠0 by decide),.inl ?_⟩
  ·show((1:Int),_,_)=_
   rw[this,ND hl hi (by omega)];have ek:fY cs (cs.set i (cs.getD i 0-1)) [i]=1:=by
    show(if _ then(1:Int)else _)=1
    rw[g1 i _ hi,zB0 (by omega)]
   rw[ek];rfl
  show jF cs (aG us (n-vs.getD i 0)) us.length=_;rw[this,ND hl hi (by omega)]
 ·have hc:=(eF hi).1 h1;have:=B' (cs.set i (cs.getD i 0+1)) (n+vs.getD i 0) (L8.set hi (by omega) hc) (by rw[e1 i _ hi,hv i hi,show cs.getD i 0+1-cs.getD i 0=1 by omega,Int.one_mul]);refine⟨hk,?_,(show(2:Int)≠0 by decide),.inl ?_⟩
  ·show((2:Int),_,_)=_
   rw[this,ND hl hi (by omega)];have ek:fY cs (cs.set i (cs.getD i 0+1)) [i]=2:=by
    show(if _ then(1:Int)else _)=2
    rw[g1 i _ hi,zB1 (by omega),zB0 rfl]
   rw[ek];rfl
  show jF cs (aG us (n+vs.getD i 0)) us.length=_;rw[this,ND hl hi (by omega)]
 by_cases V1:i+1=us.length
 ·rw[zB0 V1]at hx;cases hx
 have R3:i+1<us.length:=by omega
 obtain⟨d0,d1⟩:=L8.2 (i+1) R3
 rw[zB1 V1,List.mem_append,eY,eY]at hx;rcases hx with⟨h1,hk,rfl⟩|⟨h1,hk,rfl⟩
 ·rw[Bool.and_eq_true,Bool.and_eq_true,beq_iff_eq,decide_eq_true_eq]at h1;obtain⟨⟨h1,h2⟩,h3⟩:=h1
  have:=B' ((cs.set i (cs.getD (i+1) 0)).set (i+1) 0) (n-cs.getD (i+1) 0*vs.getD (i+1) 0+cs.getD (i+1) 0*vs.getD i 0) ((L8.set hi d0 ((eF hi).1 h3)).set R3 (by omega) λh=>by have:=d1 h;omega) (by rw[e2 i _ _ R3,hv i hi,hv (i+1) R3,h1,Int.sub_zero,Int.zero_sub,Int.neg_mul];omega);have ek:fY cs ((cs.set i (cs.getD (i+1) 0)).set (i+1) 0) [i,i+1]=3:=by
   show(if _ then(if _ then(3:Int)else _)else _)=3
   rw[zB0 rfl,(g2 i _ _ R3).1,(g2 i _ _ R3).2,zB0 ⟨rfl,by omega,h1,rfl⟩]
  refine⟨hk,?_,(show(3:Int)≠0 by decide),.inr ⟨R3,?_⟩⟩
  ·show((3:Int),_,_)=_
   rw[this,Ol hl R3 (by omega) (by omega),ek];show _=((3:Int),(if _ then _ else _),_);rw[ek,zB0 rfl]
  show jF cs (aG us (n-cs.getD (i+1) 0*vs.getD (i+1) 0+cs.getD (i+1) 0*vs.getD i 0)) us.length=_;rw[this,Ol hl R3 (by omega) (by omega)]
 rw[Bool.and_eq_true,Bool.and_eq_true,beq_iff_eq,decide_eq_true_eq]at h1;obtain⟨⟨h1,h2⟩,h3⟩:=h1
 have:=B' ((cs.set i 0).set (i+1) (cs.getD i 0)) (n-cs.getD i 0*vs.getD i 0+cs.getD i 0*vs.getD (i+1) 0) ((L8.set hi (Int.le_refl 0) λh=>by have:=c1 h;omega).set R3 c0 ((eF R3).1 h3)) (by rw[e2 i _ _ R3,hv i hi,hv (i+1) R3,h1,Int.sub_zero,Int.zero_sub,Int.neg_mul];omega);have ek:fY cs ((cs.set i 0).set (i+1) (cs.getD i 0)) [i,i+1]=4:=by
  show(if _ then(if _ then(3:Int)else if _ then 4 else _)else _)=4
  rw[zB0 rfl,(g2 i _ _ R3).1,(g2 i _ _ R3).2,zB1 (λh=>by omega),zB0 ⟨rfl,by omega,h1,rfl⟩]
 refine⟨hk,?_,(show(4:Int)≠0 by decide),.inr ⟨R3,?_⟩⟩
 ·show((4:Int),_,_)=_
  rw[this,Ol hl R3 (by omega) (by omega),ek];show _=((4:Int),(if _ then _ else _),_);rw[ek,zB1 (by decide)]
 show jF cs (aG us (n-cs.getD i 0*vs.getD i 0+cs.getD i 0*vs.getD (i+1) 0)) us.length=_;rw[this,Ol hl R3 (by omega) (by omega)]
def Ao{m:Int}:∀{S:List Sp},fN S m≠0->∃x∈S,x.2.2=m
 |[],h=>absurd rfl h
 |x::S,h=>by
  rw[fN]at h;by_cases he:x.2.2=m
  ·exact⟨x,List.mem_cons_self ..,he⟩
  rw[zB1 he]at h;obtain⟨y,hy,e⟩:=Ao h
  exact⟨y,List.mem_cons_of_mem _ hy,e⟩
def RZ{nm:List UInt8}{us:List Pr}(L0:aH nm us=0){n:Int}(M5:1≤n)(x:Sp):
  x∈fC us (aG us n) (dR nm us) n↔okN x.2.2=true∧x=Mo us n x.2.2∧x.1≠0:=by
 constructor
 ·intro hx;obtain⟨i,hi,hx⟩:=List.mem_flatMap.1 hx
  obtain⟨h1,h2,h3,_⟩:=LC L0 M5 (List.mem_range.1 hi) hx
  exact⟨h1,h2,h3⟩
 rintro⟨h1,h2,h3⟩
 have N5:=h1;unfold okN at N5;rw[Bool.and_eq_true,decide_eq_true_eq,decide_eq_true_eq]at N5;have hk:=Ht L0 M5 N5.1 N5.2;have h4:fN (fC us (aG us n) (dR nm us) n) x.2.2≠0:=by
  rw[hk];have:x.1=(Mo us n x.2.2).1:=congrArg Prod.fst h2;rw[this]at h3;exact h3
 obtain⟨y,hy,e⟩:=Ao h4
 obtain⟨i,hi,hy'⟩:=List.mem_flatMap.1 hy
 obtain⟨_,h5,_,_⟩:=LC L0 M5 (List.mem_range.1 hi) hy'
 rw[e]at h5;rw[h2,<-h5];exact hy
def YG(cs ds:List Int)(a:Nat):fY cs ds [a]=if cs.getD a 0=ds.getD a 0+1 then 1 else if cs.getD a 0+1=ds.getD a 0 then 2 else 0:=rfl
def Ya(cs ds:List Int)(a b:Nat):fY cs ds [a,b]=if b=a+1 then(if ds.getD b 0=0∧1≤ds.getD a 0∧cs.getD a 0=0∧cs.getD b 0=ds.getD a 0 then 3 else if ds.getD a 0=0∧1≤ds.getD b 0∧cs.getD b 0=0∧cs.getD a 0=ds.getD b 0 then 4 else 0)else 0:=rfl
def goodM(nm:List UInt8)(us:List Pr)(n m:Int):Prop:=iU nm us m n≠0
def beyB(out:List Sp)(m:Int):Bool:=out.all λy=>decide (y.2.2<m)
def Ia(cs ds:List Int):∀D,fY cs ds D≠0->(1≤fY cs ds D∧fY cs ds D≤4)∧(fY cs ds D≤2->∃a,D=[a])
 |[],h=>absurd rfl h
 |[a],h=>by
  refine⟨?_,λ_=>⟨a,rfl⟩⟩
  rw[YG]at h ⊢;by_cases h1:cs.getD a 0=ds.getD a 0+1
  ·rw[zB0 h1];decide
  by_cases h2:cs.getD a 0+1=ds.getD a 0
  ·rw[zB1 h1,zB0 h2];decide
  rw[zB1 h1,zB1 h2]at h;exact absurd rfl h
 |[a,b],h=>by
  rw[Ya]at h ⊢;by_cases hb:b=a+1
  ·rw[zB0 hb]at h ⊢;by_cases h1:ds.getD b 0=0∧1≤ds.getD a 0∧cs.getD a 0=0∧cs.getD b 0=ds.getD a 0
   ·rw[zB0 h1];exact⟨by decide,λh=>absurd h (by decide)⟩
   by_cases h2:ds.getD a 0=0∧1≤ds.getD b 0∧cs.getD b 0=0∧cs.getD a 0=ds.getD b 0
   ·rw[zB1 h1,zB0 h2];exact⟨by decide,λh=>absurd h (by decide)⟩
   rw[zB1 h1,zB1 h2]at h;exact absurd rfl h
  rw[zB1 hb]at h;exact absurd rfl h
 |_::_::_::_,h=>absurd rfl h
def yE{nm:List UInt8}{us:List Pr}(L0:aH nm us=0){n:Int}(M5:1≤n){x:Sp}(hx:x∈fC us (aG us n) (dR nm us) n):(1≤x.1∧x.1≤4)∧x.2.2≠n∧1≤x.2.2∧x.2.2≤1099511627776:=by
 obtain⟨h1,h2,h3⟩:=(RZ L0 M5 x).1 hx
 unfold okN at h1;rw[Bool.and_eq_true,decide_eq_true_eq,decide_eq_true_eq]at h1;have e:x.1=fY (aG us n) (aG us x.2.2) (jF (aG us n) (aG us x.2.2) us.length):=congrArg Prod.fst h2;rw[e]at h3 ⊢;refine⟨(Ia _ _ _ h3).1,λhn=>h3 ?_,h1⟩
 rw[hn];have:jF (aG us n) (aG us n) us.length=[]:=VN _ _ λj _=>bne_self_eq_false _;rw[this];rfl
def JY:loadT Tryz.prog 129=some (true,7):=by kernel_rfl
def Nf:aT Tryz.prog 129=some 7:=by kernel_rfl
def Wp:(ay Tryz.prog 129).map (λz=>(ofValue z).cells)=some [.o .nilS,.o .nilS,.o .nilS,.o .nilS,.i .i64 0,.i .i64 0,.o .nilS]:=by kernel_rfl
def yi:aE Tryz.prog 129 0=some (0,26,2):=by kernel_rfl
def yn:aE Tryz.prog 129 1=some (2,22,1):=by kernel_rfl
def Ax:aE Tryz.prog 129 2=some (3,27,1):=by kernel_rfl
def AL:aE Tryz.prog 129 3=some (4,3,1):=by kernel_rfl
def yQ:aE Tryz.prog 129 4=some (5,3,1):=by kernel_rfl
def AD:aE Tryz.prog 129 5=some (6,67,1):=by kernel_rfl
def tT:Nat->Option (Nat×Nat):=λi=>(#[(0,2),(2,1),(3,1),(4,1),(5,1),(6,1)]:Array (Nat×Nat))[i]?
def VV:cB Tryz.prog 129=some tT:=by kernel_rfl
def Oy:tT 0=some (0,2):=rfl
def OQ:tT 2=some (3,1):=rfl
def Oq:tT 4=some (5,1):=rfl
def GG:loadT Tryz.prog 127=some (false,1):=by kernel_rfl
def Hc:aT Tryz.prog 127=some 1:=by kernel_rfl
def Ni:loadT Tryz.prog 67=some (false,1):=by kernel_rfl
def LJ:aT Tryz.prog 67=some 1:=by kernel_rfl
def tV:bt Tryz.prog 67=some (30,1):=by kernel_rfl
def LA:eR Tryz.prog 67=some 1:=by kernel_rfl
def LN:aR Tryz.prog 67=1:=by kernel_rfl
def Ro:loadT Tryz.prog 194=some (false,1):=by kernel_rfl
def Ry:aT Tryz.prog 194=some 1:=by kernel_rfl
def Ua:eR Tryz.prog 194=some 2:=by kernel_rfl
def Qu:fW Tryz.prog 194=some (3,4):=by kernel_rfl
def Dg:bf Tryz.prog 3=1:=by kernel_rfl
def Sb:loadT Tryz.prog 193=some (false,1):=by kernel_rfl
def TK:aT Tryz.prog 193=some 1:=by kernel_rfl
def Yl:(ay Tryz.prog 193).map (λz=>(ofValue z).cells)=some [.o .oJ]:=by kernel_rfl
def Sr:loadT Tryz.prog 196=some (false,1):=by kernel_rfl
def Qj:aT Tryz.prog 196=some 1:=by kernel_rfl
def XO:(ay Tryz.prog 196).map (λz=>(ofValue z).cells)=some [.o .oJ]:=by kernel_rfl
def QO:loadT Tryz.prog 242=some (false,1):=by kernel_rfl
def RJ:loadT Tryz.prog 244=some (false,1):=by kernel_rfl
def sd{v:List Int}{i j:Nat}{x:Int}:(v.set i x).getD j 0=if i=j∧j<v.length then x else v.getD j 0:=by
 rw[List.getD_eq_getElem?_getD,List.getElem?_set,List.getD_eq_getElem?_getD];by_cases h:i=j
 ·subst h;rw[zB0 rfl];by_cases h2:i<v.length
  ·rw[zB0 h2,zB0 ⟨rfl,h2⟩];rfl
  rw[zB1 h2,zB1 (λh=>h2 h.2),List.getElem?_eq_none (by omega)]
 rw[zB1 h,zB1 (λhh=>h hh.1)]
def rK(v:List Int)(x:Fx)(l:List Fx):aM v (x::l)=aM (v.set x.1.toNat x.2.2.1) l:=rfl
def dV:∀(l:List Fx)(v:List Int)(j:Nat),(∀x∈l,x.1.toNat≠j)->(aM v l).getD j 0=v.getD j 0
 |[],_,_,_=>rfl
 |x::l,v,j,h=>by
  rw[rK,dV l _ j λy hy=>h y (List.mem_cons_of_mem _ hy),sd,zB1 λhh=>h x (List.mem_cons_self ..) hh.1]
def fM:∀(l:List Fx)(v:List Int),List.Pairwise (λx y:Fx=>x.1.toNat≠y.1.toNat) l->∀x∈l,x.1.toNat<v.length->(aM v l).getD x.1.toNat 0=x.2.2.1
 |[],_,_,_,h,_=>absurd h List.not_mem_nil
 |y::l,v,hp,x,hx,hl=>by
  obtain⟨h1,h2⟩:=List.pairwise_cons.1 hp
  rw[rK];rcases List.mem_cons.1 hx with rfl|hx
  ·rw[dV l _ _ λz hz e=>h1 z hz e.symm,sd,zB0 ⟨rfl,hl⟩]
  exact fM l _ h2 x hx (by rw[List.length_set];exact hl)
def Sl{a b:List Int}(hl:a.length=b.length)(h:∀j,j<a.length->a.getD j 0=b.getD j 0):a=b:=by
 refine List.ext_getElem hl λj h1 h2=>?_;have:=h j h1;rw[List.getD_eq_getElem?_getD,List.getD_eq_getElem?_getD,zB4 h1,zB4 h2]at this;exact this
def su{v:List Int}{l k:List Fx}(hp:l.Perm k)(h:List.Pairwise (λx y:Fx=>x.1.toNat≠y.1.toNat) l):aM v l=aM v k:=by
 have hk:List.Pairwise (λx y:Fx=>x.1.toNat≠y.1.toNat) k:=(hp.pairwise_iff λ{x y}h=>λe=>h e.symm).1 h;refine Sl (by rw[cA,cA]) λj hj=>?_;rw[cA]at hj;by_cases hm:∃x∈l,x.1.toNat=j
 ·obtain⟨x,hx,rfl⟩:=hm
  rw[fM l v h x hx hj,fM k v hk x (hp.mem_iff.1 hx) hj]
 rw[dV l v j λx hx e=>hm ⟨x,hx,e⟩,dV k v j λx hx e=>hm ⟨x,hp.mem_iff.2 hx,e⟩]
def NP(v:List Int)(l k:List Fx):aM v (l++k)=aM (aM v l) k:=by
 unfold aM;rw[List.foldl_append]
def kI{a b:List Int}:∀(ps:List Int)(n:Int),(∀i∈ps,a.getD i.toNat 0=b.getD i.toNat 0)->aY a n ps=aY b n ps
 |[],_,_=>rfl
 |i::ps,n,h=>by
  rw[aY,aY,h i (List.mem_cons_self ..)];exact kI ps _ λj hj=>h j (List.mem_cons_of_mem _ hj)
def tK(v:List Int):List Int->Int
 |[]=>0
 |i::l=>v.getD i.toNat 0+tK v l
def uf{v:List Int}(hv:∀j,0≤v.getD j 0∧v.getD j 0≤1099511627776):∀(ps:List Int)(n:Int),0≤n->n+ps.length*1099511627776≤4611686018427387904->aY v n ps=n+tK v ps
 |[],n,_,_=>by show n=n+0;omega
 |i::ps,n,h0,h=>by
  have hi:=hv i.toNat;rw[List.length_cons]at h;rw[aY,aP (by omega) (by omega),uf hv ps _ (by omega) (by omega),tK];omega
def DK{v:List Int}{i:Int}{x:Int}:∀(ps:List Int),(∀j∈ps,0≤j)->0≤i->i.toNat<v.length->List.Pairwise (λa b:Int=>a<b) ps->tK (v.set i.toNat x) ps=if i∈ps then tK v ps-v.getD i.toNat 0+x else tK v ps
 |[],_,_,_,_=>by rw[zB1 List.not_mem_nil];rfl
 |j::ps,B8,hi,hl,hp=>by
  obtain⟨h1,h2⟩:=List.pairwise_cons.1 hp
  have hj:=B8 j (List.mem_cons_self ..);have ih:=DK (x:=x) ps (λk hk=>B8 k (List.mem_cons_of_mem _ hk)) hi hl h2;rw[tK,tK,ih,sd];by_cases e:i=j
  ·subst e;rw[zB0 ⟨rfl,hl⟩,zB1 (λhm=>by have:=h1 i hm;omega),zB0 (List.mem_cons_self ..)];omega
  have e2:¬(i.toNat=j.toNat∧j.toNat<v.length):=λhh=>e (by have:=hh.1;omega);rw[zB1 e2];by_cases hm:i∈ps
  ·rw[zB0 hm,zB0 (List.mem_cons_of_mem _ hm)];omega
  rw[zB1 hm,zB1 (λhh=>(List.mem_cons.1 hh).elim (λh=>e h) hm)]
structure eO(v:List Int)(lr:List Rl)(K:Int->Int->Int):Prop where
 vb:∀j,0≤v.getD j 0∧v.getD j 0≤1099511627776
 vl:v.length≤64
 tr:∀r∈lr,0≤r.1∧r.1<v.length
 pr:∀r∈lr,∀i∈r.2,0≤i∧i<v.length
 pa:∀r∈lr,List.Pairwise (λa b:Int=>a<b) r.2
 pl:∀r∈lr,r.2.length≤64
 tp:∀r∈lr,∀s∈lr,r.1∉s.2
 td:List.Pairwise (λr s:Rl=>r.1≠s.1) lr
 kb:∀i to,K i to≠0->(1≤to∧to≤1099511627776)∧to≠v.getD i.toNat 0∧K i to≠5
section
variable(v:List Int)(lr:List Rl)(K:Int->Int->Int)
def QM(x:Fx):Prop:=(0≤x.1∧x.1<v.length)∧x.2.1=v.getD x.1.toNat 0∧x.2.2.2=K x.1 x.2.2.1∧x.2.2.2≠0∧∃r∈lr,x.1∈r.2
structure bM(l:List Fx):Prop where
 ok:∀x∈l,QM v lr K x
 pw:List.Pairwise (λx y:Fx=>x.1.toNat≠y.1.toNat) l
def cS(now:List Int):List Rl->Option (List Fx)
 |[]=>some []
 |r::l=>if aY now 0 r.2=v.getD r.1.toNat 0 then cS now l else if aY now 0 r.2<1∨1099511627776<aY now 0 r.2 then none else
  (cS now l).map λT=>(r.1,v.getD r.1.toNat 0,aY now 0 r.2,if K r.1 (aY now 0 r.2)=0 then 5 else K r.1 (aY now 0 r.2))::T
end
def cO:List Fx->Nat
 |[]=>0
 |x::l=>(if x.2.2.2=5 then 2 else 1)+cO l
def ky:∀l:List Fx,l.length≤cO l
 |[]=>zA1 _
 |x::l=>by
  have:=ky l;rw[cO,List.length_cons];split<;>omega
variable{v:List Int}{lr:List Rl}{K:Int->Int->Int}
theorem KM{now now':List Int}:∀(l:List Rl)(T:List Fx),(∀r∈l,aY now' 0 r.2=v.getD r.1.toNat 0∨aY now' 0 r.2=aY now 0 r.2)->cS v K now l=some T->∃T',cS v K now' l=some T'∧cO T'≤cO T
 |[],T,_,h=>⟨[],rfl,Nat.zero_le _⟩
 |r::l,T,hr,h=>by
  rw[cS]at h;rw[cS];have h2:=λT=>KM l T λs hs=>hr s (List.mem_cons_of_mem _ hs);by_cases e:aY now 0 r.2=v.getD r.1.toNat 0
  ·rw[zB0 e]at h;have e':aY now' 0 r.2=v.getD r.1.toNat 0:=(hr r (List.mem_cons_self ..)).elim id λh=>h.trans e;rw[zB0 e'];exact h2 T h
  rw[zB1 e]at h;by_cases b:aY now 0 r.2<1∨1099511627776<aY now 0 r.2
  ·rw[zB0 b]at h;cases h
  rw[zB1 b]at h;cases ht:cS v K now l with
  |none=>rw[ht]at h;cases h
  |some T1=>
   rw[ht]at h;cases h
   obtain⟨T',t1,t2⟩:=h2 T1 ht
   by_cases e':aY now' 0 r.2=v.getD r.1.toNat 0
   ·rw[zB0 e'];exact⟨T',t1,by rw[cO];omega⟩
   have es:aY now' 0 r.2=aY now 0 r.2:=(hr r (List.mem_cons_self ..)).resolve_left e';rw[zB1 e',es,zB1 b,t1];refine⟨_,rfl,?_⟩
   rw[cO,cO];exact Nat.add_le_add_left t2 _
theorem tW{now:List Int}:∀(l:List Rl)(T:List Fx),cS v K now l=some T->∀r∈l,aY now 0 r.2≠v.getD r.1.toNat 0->∃x∈T,x.1=r.1
 |[],_,_,_,h,_=>absurd h List.not_mem_nil
 |s::l,T,h,r,hr,hw=>by
  rw[cS]at h;by_cases e:aY now 0 s.2=v.getD s.1.toNat 0
  ·rw[zB0 e]at h;rcases List.mem_cons.1 hr with rfl|hr
   ·exact absurd e hw
   exact tW l T h r hr hw
  rw[zB1 e]at h;by_cases b:aY now 0 s.2<1∨1099511627776<aY now 0 s.2
  ·rw[zB0 b]at h;cases h
  rw[zB1 b]at h;cases ht:cS v K now l with
  |none=>rw[ht]at h;cases h
  |some T1=>
   rw[ht]at h;cases h
   rcases List.mem_cons.1 hr with rfl|hr
   ·exact⟨_,List.mem_cons_self ..,rfl⟩
   obtain⟨x,hx,e⟩:=tW l T1 ht r hr hw
   exact⟨x,List.mem_cons_of_mem _ hx,e⟩
theorem Xt(h:List.Pairwise (λr s:Rl=>r.1≠s.1) lr){n m:Nat}{r s:Rl}(hn:lr[n]?=some r)(hm:lr[m]?=some s)(h_:n≠m):r.1≠s.1:=by
 obtain⟨h1,rfl⟩:=List.getElem?_eq_some_iff.1 hn
 obtain⟨h2,rfl⟩:=List.getElem?_eq_some_iff.1 hm
 rcases Nat.lt_or_gt_of_ne h_ with h3|h3
 ·exact List.pairwise_iff_getElem.1 h n m h1 h2 h3
 exact(List.pairwise_iff_getElem.1 h m n h2 h1 h3).symm
def ju(v:List Int)(lr:List Rl)(now:List Int)(n:Nat):Prop:=∃r,lr[n]?=some r∧aY now 0 r.2≠v.getD r.1.toNat 0
theorem OI(htd:List.Pairwise (λr s:Rl=>r.1≠s.1) lr){now:List Int}{T:List Fx}(ht:cS v K now lr=some T){given:List Nat}(hg:given.Nodup)(hw:∀n∈given,ju v lr now n):given.length≤T.length:=by
 have h1:(given.map λn=>(lr.getD n (0,[])).1).Nodup:=by
  refine List.pairwise_map.2 (List.Pairwise.imp_of_mem (λ{a b}ha hb hab=>?_) hg);obtain⟨r,hr,_⟩:=hw a ha
  obtain⟨s,hs,_⟩:=hw b hb
  rw[List.getD_eq_getElem?_getD,List.getD_eq_getElem?_getD,hr,hs];exact Xt htd hr hs hab
 have h2:=List.Nodup.length_le_of_subset (l₂:=T.map λx=>x.1) h1 λt hm=>by
  obtain⟨n,hn,rfl⟩:=List.mem_map.1 hm
  obtain⟨r,hr,i'⟩:=hw n hn
  obtain⟨x,hx,e⟩:=tW lr T ht r (List.mem_of_getElem? hr) i'
  refine List.mem_map.2 ⟨x,hx,?_⟩;rw[List.getD_eq_getElem?_getD,hr];exact e
 rwa [List.length_map,List.length_map]at h2
theorem bM.perm{l k:List Fx}(h:bM v lr K l)(hp:l.Perm k):bM v lr K k:=
 ⟨λx hx=>h.ok x (hp.mem_iff.2 hx),(hp.pairwise_iff λ{x y}h=>λe=>h e.symm).1 h.pw⟩
def Ip(v:List Int)(lr:List Rl)(K:Int->Int->Int)(c:Nat):Prop:=∀I T,bM v lr K I->cS v K (aM v I) lr=some T->c≤I.length+cO T
structure dt(v:List Int)(lr:List Rl)(K:Int->Int->Int)(c:Nat)(I T items rest:List Fx)(given:List Nat):Prop where
 io:bM v lr K I
 to:cS v K (aM v I) lr=some T
 co:I.length+cO T=c
 pe:I.Perm (items++rest)
 nd:given.Nodup
 gw:∀n∈given,ju v lr (aM v I) n
section
variable{c:Nat}{I T items rest:List Fx}{given:List Nat}
theorem dt.now(h:dt v lr K c I T items rest given):aM v I=aM (aM v items) rest:=by rw[su h.pe h.io.pw,NP]
theorem dt.cost(D0:eO v lr K)(h:dt v lr K c I T items rest given):items.length+rest.length+given.length≤c:=by
 have h1:=OI D0.td h.to h.nd h.gw;have h2:=ky T;have h3:=h.pe.length_eq;rw[List.length_append]at h3;have:=h.co;omega
theorem dt.itm(h:dt v lr K c I T items rest given):bM v lr K items:=by
 have:=h.io.perm h.pe;exact⟨λx hx=>this.ok x (List.mem_append_left _ hx),(List.pairwise_append.1 this.pw).1⟩
theorem dt.same(D0:eO v lr K)(h:dt v lr K c I T items rest given){r:Rl}(hr:r∈lr)(hn:∀x∈rest,x.1∉r.2):aY (aM v items) 0 r.2=aY (aM v I) 0 r.2:=by
 rw[h.now];refine kI _ _ λi hi=>(dV rest _ _ λx hx e=>hn x hx ?_).symm;have h1:=(D0.pr r hr i hi).1;have h2:=((h.io.perm h.pe).ok x (List.mem_append_right _ hx)).1;have:x.1=i:=by omega
 rw[this];exact hi
theorem dt.PJ(D0:eO v lr K)(h:dt v lr K c I T items rest given){w:Nat}{r:Rl}(hr:lr[w]?=some r)(hg:w∉given)(hw:aY (aM v items) 0 r.2≠v.getD r.1.toNat 0):
  items.length+given.length+1≤c∧(dt v lr K c I T items rest (w::given)∨∃x rest',x.1∈r.2∧x∈rest∧dt v lr K c I T (items++[x]) rest' given∧aY (aM v I) 0 r.2=v.getD r.1.toNat 0):=by
 by_cases hI:aY (aM v I) 0 r.2=v.getD r.1.toNat 0
 ·have hx:∃x∈rest,x.1∈r.2:=Classical.byContradiction λhn=>hw ((h.same D0 (List.mem_of_getElem? hr) λx hx hm=>hn ⟨x,hx,hm⟩).trans hI);obtain⟨x,hx,hm⟩:=hx
  have hc:=h.cost D0;have hl:1≤rest.length:=List.length_pos_of_mem hx;refine⟨by omega,.inr ⟨x,rest.erase x,hm,hx,⟨h.io,h.to,h.co,?_,h.nd,h.gw⟩,hI⟩⟩
  refine h.pe.trans ?_;rw[List.append_assoc];exact(List.perm_cons_erase hx).append_left items
 have h2:dt v lr K c I T items rest (w::given):=⟨h.io,h.to,h.co,h.pe,List.nodup_cons.2 ⟨hg,h.nd⟩,λn hn=>(List.mem_cons.1 hn).elim (λe=>by rw[e];exact⟨r,hr,hI⟩) (h.gw n)⟩;have hc:=h2.cost D0;rw[List.length_cons]at hc;exact⟨by omega,.inl h2⟩
theorem dt.right(D0:eO v lr K)(B5:Ip v lr K c)(h:dt v lr K c I T items rest given)(hw:∀n,n∉given->¬ju v lr (aM v items) n):
  rest=[]∨items.length+given.length+1≤c∧∃n∈given,∃r,lr[n]?=some r∧∃x rest',x.1∈r.2∧x∈rest∧dt v lr K c I T (items++[x]) rest' given:=by
 by_cases hx:∃x∈rest,∃n∈given,∃r,lr[n]?=some r∧x.1∈r.2
 ·obtain⟨x,hx,n,hn,r,hr,hm⟩:=hx
  have hc:=h.cost D0;have hl:1≤rest.length:=List.length_pos_of_mem hx;refine .inr ⟨by omega,n,hn,r,hr,x,rest.erase x,hm,hx,⟨h.io,h.to,h.co,?_,h.nd,h.gw⟩⟩;refine h.pe.trans ?_;rw[List.append_assoc];exact(List.perm_cons_erase hx).append_left items
 left;obtain⟨T',t1,t2⟩:=KM (v:=v) (K:=K) (now:=aM v I) (now':=aM v items) lr T (λr hr=>by
  obtain⟨n,hn⟩:=List.getElem?_of_mem hr
  by_cases hg:n∈given
  ·exact .inr (h.same D0 hr λx L6 hm=>hx ⟨x,L6,n,hg,r,hn,hm⟩)
  exact .inl (Classical.byContradiction λhh=>hw n hg ⟨r,hn,hh⟩)) h.to
 have h1:=B5 items T' h.itm t1;have h3:=h.pe.length_eq;rw[List.length_append]at h3;have:=h.co;exact List.eq_nil_of_length_eq_zero (by omega)
theorem dt.forced(D0:eO v lr K){x:Fx}(h:dt v lr K c I T (items++[x]) rest given)(hc:items.length+given.length+1=c){r:Rl}(hr:r∈lr)(hm:x.1∈r.2)(hI:aY (aM v I) 0 r.2=v.getD r.1.toNat 0):
  rest=[]∧x.2.2.1=v.getD x.1.toNat 0+v.getD r.1.toNat 0-aY (aM v items) 0 r.2:=by
 have h1:=h.cost D0;rw[List.length_append,List.length_singleton]at h1;have G0:rest=[]:=List.eq_nil_of_length_eq_zero (by omega);subst G0;have M':=h.io.perm h.pe;rw[List.append_nil]at M';have hxo:=M'.ok x (List.mem_append_right _ (List.mem_cons_self ..));have hnow:aM v I=(aM v items).set x.1.toNat x.2.2.1:=by
  rw[su h.pe h.io.pw,List.append_nil,xa]
 have bd:∀(l:List Fx)(j:Nat),bM v lr K l->0≤(aM v l).getD j 0∧(aM v l).getD j 0≤1099511627776:=λl j hl=>by
  by_cases hm:∃y∈l,y.1.toNat=j
  ·obtain⟨y,hy,rfl⟩:=hm
   have hyo:=hl.ok y hy;have O5:=hyo.1;rw[fM l v hl.pw y hy (by omega)];have:=(D0.kb y.1 y.2.2.1 (by rw[<-hyo.2.2.1];exact hyo.2.2.2.1)).1;omega
  rw[dV l v j λy hy e=>hm ⟨y,hy,e⟩];exact D0.vb j
 have S3:bM v lr K items:=⟨λy hy=>M'.ok y (List.mem_append_left _ hy),(List.pairwise_append.1 M'.pw).1⟩;have G7:=D0.pl r hr;have e1:=uf (λj=>bd I j h.io) r.2 0 (Int.le_refl _) (by omega);have e2:=uf (λj=>bd items j S3) r.2 0 (Int.le_refl _) (by omega);have O0:=hxo.1;have e3:=DK (v:=aM v items) (x:=x.2.2.1) r.2 (λj hj=>(D0.pr r hr j hj).1) O0.1 (by rw[cA];omega) (D0.pa r hr);rw[zB0 hm]at e3;have e4:(aM v items).getD x.1.toNat 0=v.getD x.1.toNat 0:=dV items v _ λy hy=>(List.pairwise_append.1 M'.pw).2.2 y hy x (List.mem_cons_self ..);rw[hnow,e3,e4]at e1;rw[hnow]at hI;refine⟨rfl,?_⟩
 omega
end
end Go.Proofs.YtgepceljhelekaaGreat
end
